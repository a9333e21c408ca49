/-
  Walks, printed by a program of mine.
-/
import Derived.KernelRfl
import Derived.Test.YtohjlkjhpibkmaaGreatDoorE16
import Derived.Test.YtohjlkjhpibkmaaGreatDoorE29
import Derived.Test.YtohjlkjhpibkmaaGreatDoorE28
set_option linter.all false
namespace Go.Proofs.YtohjlkjhpibkmaaGreatDoor
open Go Go.LK Go.Proofs.Tryz
set_option maxRecDepth 100000
set_option maxHeartbeats 4000000
def YL(h:g.b3)(d:g.dM)(ae eD:Value)(e:Int)(uj:Value.oneCell' ae=true)(gN:Value.oneCell' eD=true)(bf:h.bC)(R:d.bC h)(bB:0≤e)(G:e < h.ap):M prog 152 #[.agg #[h.ap,d.cb,d.bJ,d.bR,d.b4,d.bY,d.b_,d.cy,ae,eD,d.cA,d.held,h.bm,d.aR,d.gh,d.aa,d.aP],e] [bF ae 1 ((d.S.take h.ap.toNat).map bH)] [] (fun m B=>∃ X,m=.tuple #[.agg #[h.ap,.b ((g.cY h d e).cb),.b ((g.cY h d e).bJ),.b ((g.cY h d e).bR),.b ((g.cY h d e).b4),.b ((g.cY h d e).bY),.b ((g.cY h d e).b_),.b ((g.cY h d e).cy),X,eD,.b ((g.cY h d e).cA),.b ((g.cY h d e).held),h.bm,.b ((g.cY h d e).aR),.b ((g.cY h d e).gh),.b ((g.cY h d e).aa),.b ((g.cY h d e).aP)],.bool true]∧B=[row X 3 1 (((g.cY h d e).S.take h.ap.toNat).map bH)]):=by
 have dx:=bf.gB;have fe:=bf.hm;have h4_:=R.aw
 have au:=auJ h.ap d.cb d.bJ d.bR d.b4 d.bY d.b_ d.cy d.cA d.held h.bm d.aR d.gh d.aa d.aP ae eD (d.S.take h.ap.toNat) e uj gN vX bB vX
 rw [g.au2 dx h4_ bB G fe];exact au
def atZ(h:g.b3)(ah:g.ct)(q:g.cu)(aJ:List Int)(bu:List a7)(id aE O am a1 bM:Int)(ao:g.nW h q aJ bu):M prog 66 #[ah.s,.agg #[id,aE,O,am,a1,bM]] [bF ah.ej 14 (h.k1.map cj.cells),bF ah.dA 4 (h.bb.map cG.cells)] (nk h ah q aJ bu) (fun m B=>∃ (dS dK:Value) (l_:g.ct) (dY:List Int) (jn:List a7),m=.tuple #[.agg #[dS,dK],.b (g.je h q id aE O am a1 bM).2.2.2]∧g.wa h (g.je h q id aE O am a1 bM).1 dY aJ jn∧B=nk h (g.ct.as ah l_) (g.je h q id aE O am a1 bM).1 dY jn++[row dS 51 7 (((g.je h q id aE O am a1 bM).2.1).map aK.cells),row dK 62 23 (((g.je h q id aE O am a1 bM).2.2.1).map bk.cells)]):=by
 have:=ao.z
 have ⟨_,_,_,_,_⟩:=ao.L
 have kF:Value.oneCell' (Value.slice none 0 0)=true:=rfl
 have Av:=ao.yC
 refine M.aM func66 a ntmps66 a fun an=>?_
 refine aD 0 ?_
 refine w.one (ax.row 2 a) (fun kG=>?_)
 refine w.one (ax.row 3 a) (fun gN=>?_)
 refine w.one (ax.row 4 a) (fun kH=>?_)
 refine w.one (ax.row 5 a) (fun ga=>?_)
 refine w.one (ax.row 7 a) (fun sW=>?_)
 refine w.fg 51 7 (([]:List aK).map aK.cells) a<|w.fg 62 23 (([]:List bk).map bk.cells) a ?_
 refine I 3 ?_
 intro _ _ dE
 rcases g.aui h id aE O am a1 bM with ⟨j8,yl⟩|⟨j8,rZ,yl⟩|⟨j8,rZ,sO,yl⟩|⟨j8,rZ,sO,alB,yl⟩|⟨j8,rZ,sO,alB,q2,CJ⟩
 exact LQ
 exact LQ
 exact LQ
 exact LQ
 refine K.hW 33 Tryz.bE aN ?_
 refine P Y6 ?_
 refine aD 27 ?_
 rcases g.anw ao.n id with ⟨qt,cN⟩|⟨qt,pf,cN⟩|⟨qt,pf,⟨aAT,ft⟩,cN⟩|⟨qt,pf,ft,cN⟩
 refine K.ef (df [(0,20)]) [2,5,6] Tryz.bE aN a ?_
 refine P Gk ?_
 refine P k0 ?_
 refine I 1 ?_
 intro xJ
 refine w.one (ax.row 1 a) (fun o_=>?_)
 exact R8
 refine K.ef (df [(0,20)]) [2,5,6,9] Tryz.bE aN a ?_
 refine P Gk ?_
 refine P PY ?_
 refine P k0 ?_
 refine I 1 ?_
 intro axM
 refine w.one (ax.row 1 a) (fun Cy=>?_)
 exact R8
 refine K.ef (df [(0,20)]) [2,5,6,9,10] Tryz.bE aN a ?_
 refine P Gk ?_
 refine P PY ?_
 refine P Kb ?_
 refine aL.eg (u:=64) a a a pf a (U.dg (U.geq a a)) a<|aL.n a (U.w_ a pf a) a<|aL.nil<|K.lN a (show decide (0≤(g.CU (g.hd (bu.map a7.cL) id)))=true from (by rw [ft];exact c9 (Int.natCast_nonneg _))) ?_
 refine P k0 ?_
 refine I 1 ?_
 intro xI
 refine w.one (ax.row 1 a) (fun t_=>?_)
 exact R8
 refine K.ef (df [(0,20)]) [2,5,6,9,10] Tryz.bE aN a ?_
 refine P Gk ?_
 refine P PY ?_
 refine P Kb ?_
 refine aL.eg (u:=64) a a a pf a (U.dg (U.geq a a)) a<|aL.n a (U.w_ a pf a) a<|aL.nil<|K.fZ a (show decide (0≤(g.CU (g.hd (bu.map a7.cL) id)))=false from (by rw [ft];decide)) ?_
 refine I 0 ?_
 refine K.ef (df [(0,11),(11,0),(12,5)]) [2,5] Tryz.bE aN a ?_
 refine P auD ?_
 intro hc
 refine aD 1 ?_
 refine w.one (ax.bF 0 a) (fun Cv=>?_)
 refine w.cq (aq.gy 6 tO Cv a a a a) ?_
 rintro _ _ rfl
 refine I 0 ?_
 refine K.kD Tryz.bE ?_
 refine ar.gV 6 10 a ?_ ?_
 refine ar.fH (df [(0,6),(10,0),(6,0),(7,3),(11,0),(12,1)]) [3,6] aN a ?_
 refine P YL ?_
 intro No
 intro mD
 refine aD 1 ?_
 refine aL.one a (fun _ c=>by cases c<;>rfl) (ax.row 0 a) (fun t'=>?_)
 refine aD 4 ?_
 refine K.kk Tryz.bE aN ?_
 refine aU ?_ ?_
 refine I 0 ?_
 intros
 refine K.fD 11 Tryz.bE aN ?_
 refine P (k0 h ({ ah with ae:=hc,gK:=mD }:g.ct) ({ q with d:=(g.cY h q.d am) }:g.cu) dE (Value.slice none 0 0) (Value.slice none 0 0) ([]:List aK) 1 id 3 am ((g.cY h q.d am).aa)) ?_
 refine I 0 ?_
 intro L9
 refine K.sB 21 20 12 [.b 0,.b 0,.b 0,.b 0,.b 0,.b 0,.b 0] Tryz.bE aN a a aba a ?_
 refine aD 9 ?_
 intro ajo
 refine P (vE h ({ ah with ae:=hc,gK:=mD }:g.ct) ({ q with d:=(g.cY h q.d am) }:g.cu) dE L9 (Value.slice none 0 0) (([]:List aK)++[(⟨1,q.x,h.al,id,3,am,(g.cY h q.d am).aa⟩:aK)]) ([]:List bk) (⟨id,am,aE,a1,bM,q.x,q.aY+1⟩:T) 3) ?_
 rintro _ _ ⟨D3,F25,rfl,rfl⟩
 refine P (ku h ({ ah with ae:=hc,gK:=mD }:g.ct) ({ q with d:=(g.cY h q.d am),bz:=(g.gJ q.bz h.fW.toNat id) }:g.cu) dE D3 F25 ((([]:List aK)++[(⟨1,q.x,h.al,id,3,am,(g.cY h q.d am).aa⟩:aK)])++[g.ek q.x h.al ((⟨id,am,aE,a1,bM,q.x,q.aY+1⟩:T),3)]) (([]:List bk)++[g.eB h.al (g.cY h q.d am) ((⟨id,am,aE,a1,bM,q.x,q.aY+1⟩:T),3)]) bu aJ LN kH ga t' gN jW ao.n ⟨ao.b1.ez,ao.b1.eA⟩ v7) ?_
 rintro _ _ ⟨aea,aeS,afj,afM,aog,rfl,ak_,amv,amY,hjl35,hel36,rfl⟩
 refine I 1 ?_
 refine w.one (ax.row 2 a) (fun azT=>?_)
 refine w.one (ax.row 7 a) (fun aj1=>?_)
 refine aF ?_
 exact aO (by have dk:g.je h q id aE O am a1 bM=(g.fx h ({ q with d:=(g.cY h q.d am),bz:=(g.gJ q.bz h.fW.toNat id) }:g.cu) ((([]:List aK)++[(⟨1,q.x,h.al,id,3,am,(g.cY h q.d am).aa⟩:aK)])++[g.ek q.x h.al ((⟨id,am,aE,a1,bM,q.x,q.aY+1⟩:T),3)]) (([]:List bk)++[g.eB h.al (g.cY h q.d am) ((⟨id,am,aE,a1,bM,q.x,q.aY+1⟩:T),3)])):=abI;rw [dk];exact ⟨_,_,({ ah with ae:=hc,gK:=mD,eD:=afj,e5:=aeS }:g.ct),afM,aog,rfl,⟨ak_,amv,(by have fe:=amY;have au:=ao.A;first|omega|(dsimp only at *;omega))⟩,kx⟩)
 refine I 0 ?_
 intros
 refine K.kk Tryz.bE aN ?_
 refine aU ?_ ?_
 refine I 0 ?_
 intros
 refine K.fD 11 Tryz.bE aN ?_
 refine P (k0 h ({ ah with ae:=hc,gK:=mD }:g.ct) ({ q with d:=(g.cY h q.d am) }:g.cu) dE (Value.slice none 0 0) (Value.slice none 0 0) ([]:List aK) 1 id 2 am ((g.cY h q.d am).aa)) ?_
 refine I 0 ?_
 intro aeg
 refine K.sB 21 20 12 [.b 0,.b 0,.b 0,.b 0,.b 0,.b 0,.b 0] Tryz.bE aN a a aba a ?_
 refine aD 9 ?_
 intro ayF
 refine P (vE h ({ ah with ae:=hc,gK:=mD }:g.ct) ({ q with d:=(g.cY h q.d am) }:g.cu) dE aeg (Value.slice none 0 0) (([]:List aK)++[(⟨1,q.x,h.al,id,2,am,(g.cY h q.d am).aa⟩:aK)]) ([]:List bk) (⟨id,am,aE,a1,bM,q.x,q.aY+1⟩:T) 2) ?_
 rintro _ _ ⟨D4,F45,rfl,rfl⟩
 refine P (ku h ({ ah with ae:=hc,gK:=mD }:g.ct) ({ q with d:=(g.cY h q.d am),bz:=(g.gJ q.bz h.fW.toNat id) }:g.cu) dE D4 F45 ((([]:List aK)++[(⟨1,q.x,h.al,id,2,am,(g.cY h q.d am).aa⟩:aK)])++[g.ek q.x h.al ((⟨id,am,aE,a1,bM,q.x,q.aY+1⟩:T),2)]) (([]:List bk)++[g.eB h.al (g.cY h q.d am) ((⟨id,am,aE,a1,bM,q.x,q.aY+1⟩:T),2)]) bu aJ LN kH ga t' gN jW ao.n ⟨ao.b1.ez,ao.b1.eA⟩ v7) ?_
 rintro _ _ ⟨Ma,aeX,afo,afQ,aok,rfl,ald,amA,am3,hjl55,hel56,rfl⟩
 refine I 1 ?_
 refine w.one (ax.row 2 a) (fun az1=>?_)
 refine w.one (ax.row 7 a) (fun aj7=>?_)
 refine aF ?_
 exact aO (by have dk:g.je h q id aE O am a1 bM=(g.fx h ({ q with d:=(g.cY h q.d am),bz:=(g.gJ q.bz h.fW.toNat id) }:g.cu) ((([]:List aK)++[(⟨1,q.x,h.al,id,2,am,(g.cY h q.d am).aa⟩:aK)])++[g.ek q.x h.al ((⟨id,am,aE,a1,bM,q.x,q.aY+1⟩:T),2)]) (([]:List bk)++[g.eB h.al (g.cY h q.d am) ((⟨id,am,aE,a1,bM,q.x,q.aY+1⟩:T),2)])):=abD;rw [dk];exact ⟨_,_,({ ah with ae:=hc,gK:=mD,eD:=afo,e5:=aeX }:g.ct),afQ,aok,rfl,⟨ald,amA,(by have fe:=am3;have au:=ao.A;first|omega|(dsimp only at *;omega))⟩,kx⟩)
 refine I 0 ?_
 intros
 refine K.fD 11 Tryz.bE aN ?_
 refine P (k0 h ({ ah with ae:=hc,gK:=mD }:g.ct) ({ q with d:=(g.cY h q.d am) }:g.cu) dE (Value.slice none 0 0) (Value.slice none 0 0) ([]:List aK) 1 id 0 am ((g.cY h q.d am).aa)) ?_
 refine I 0 ?_
 intro D5
 refine K.sB 21 20 12 [.b 0,.b 0,.b 0,.b 0,.b 0,.b 0,.b 0] Tryz.bE aN a a aba a ?_
 refine aD 9 ?_
 intro ayI
 refine aD 4 ?_
 rcases Q7 ((q.A.length:Int) < h.hD) with rX|rX
 have rW:(g.eL (q.A++[(⟨id,am,aE,a1,bM,q.x,q.aY+1⟩:T)])).length≤64:=aa_
 refine K.kD Tryz.bE ?_
 refine ar.gV 10 16 a ?_ ?_
 refine ar.fH (df [(0,10),(16,0),(10,0),(11,5),(17,1),(18,0),(19,2)]) [0,9] aN a ?_
 refine P (Kf ah.e5 q.A h.hD (⟨id,am,aE,a1,bM,q.x,q.aY+1⟩:T) zf ao.e8 (g.uy pf) zn ao.bf.mm rX) ?_
 intro US
 intro S_
 refine aD 3 ?_
 refine w.one (ax.row 0 a) (fun NU=>?_)
 refine w.cq (aq.gy 11 pE NU a a a a) ?_
 rintro _ _ rfl
 refine P (ku h ({ ah with ae:=hc,gK:=mD,e5:=S_ }:g.ct) ({ q with aY:=q.aY+1,d:=(g.cY h q.d am),bz:=(g.gJ q.bz h.fW.toNat id),A:=(g.eL (q.A++[(⟨id,am,aE,a1,bM,q.x,q.aY+1⟩:T)])) }:g.cu) dE D5 (Value.slice none 0 0) (([]:List aK)++[(⟨1,q.x,h.al,id,0,am,(g.cY h q.d am).aa⟩:aK)]) ([]:List bk) bu aJ zj NU ga t' gN jW ao.n ⟨ao.b1.ez,ao.b1.eA⟩ zk) ?_
 rintro _ _ ⟨Sz,ae0,afr,afT,aon,rfl,alg,amD,am6,hjl75,hel76,rfl⟩
 refine I 1 ?_
 refine w.one (ax.row 2 a) (fun aj9=>?_)
 refine aF ?_
 exact aO (by have dk:g.je h q id aE O am a1 bM=(g.fx h ({ q with aY:=q.aY+1,d:=(g.cY h q.d am),bz:=(g.gJ q.bz h.fW.toNat id),A:=(g.eL (q.A++[(⟨id,am,aE,a1,bM,q.x,q.aY+1⟩:T)])) }:g.cu) (([]:List aK)++[(⟨1,q.x,h.al,id,0,am,(g.cY h q.d am).aa⟩:aK)]) ([]:List bk)):=Ly;rw [dk];exact ⟨_,_,({ ah with ae:=hc,gK:=mD,eD:=afr,e5:=ae0 }:g.ct),afT,aon,rfl,⟨alg,amD,(by have fe:=am6;have au:=rW;first|omega|(dsimp only at *;omega))⟩,kx⟩)
 refine ar.fH (df [(0,10),(10,0),(11,5),(16,0),(17,1),(18,0),(19,2)]) [0,9] aN a ?_
 refine P (Kf ah.e5 q.A h.hD (⟨id,am,aE,a1,bM,q.x,q.aY+1⟩:T) zf ao.e8 (g.uy pf) zn ao.bf.mm rX) ?_
 intro aeB
 refine aD 5 ?_
 intro ayL
 refine w.one (ax.row 1 a) (fun NW=>?_)
 refine w.cq (aq.gy 11 pE NW a a a a) ?_
 rintro _ _ rfl
 refine P (ku h ({ ah with ae:=hc,gK:=mD,e5:=aeB }:g.ct) ({ q with aY:=q.aY+1,d:=(g.cY h q.d am),bz:=(g.gJ q.bz h.fW.toNat id),A:=(g.eL (q.A++[(⟨id,am,aE,a1,bM,q.x,q.aY+1⟩:T)])) }:g.cu) dE D5 (Value.slice none 0 0) (([]:List aK)++[(⟨1,q.x,h.al,id,0,am,(g.cY h q.d am).aa⟩:aK)]) ([]:List bk) bu aJ zj NW ga t' gN jW ao.n ⟨ao.b1.ez,ao.b1.eA⟩ zk) ?_
 rintro _ _ ⟨axP,ae3,afu,afW,aoq,rfl,alj,amG,am9,hjl91,hel92,rfl⟩
 refine I 1 ?_
 refine w.one (ax.row 2 a) (fun aAc=>?_)
 refine aF ?_
 exact aO (by have dk:g.je h q id aE O am a1 bM=(g.fx h ({ q with aY:=q.aY+1,d:=(g.cY h q.d am),bz:=(g.gJ q.bz h.fW.toNat id),A:=(g.eL (q.A++[(⟨id,am,aE,a1,bM,q.x,q.aY+1⟩:T)])) }:g.cu) (([]:List aK)++[(⟨1,q.x,h.al,id,0,am,(g.cY h q.d am).aa⟩:aK)]) ([]:List bk)):=Ly;rw [dk];exact ⟨_,_,({ ah with ae:=hc,gK:=mD,eD:=afu,e5:=ae3 }:g.ct),afW,aoq,rfl,⟨alj,amG,(by have fe:=am9;have au:=rW;first|omega|(dsimp only at *;omega))⟩,kx⟩)
 obtain ⟨F,hm,AH,OJ,mh⟩:=g.UO (e:=(⟨id,am,aE,a1,bM,q.x,q.aY+1⟩:T)) ao.e8 (g.uy pf)
 have rW:(g.eL ((q.A++[(⟨id,am,aE,a1,bM,q.x,q.aY+1⟩:T)]).filter fun aI=>decide (aI.id≠F.id))).length≤64:=abs
 refine K.kD Tryz.bE ?_
 refine ar.gV 10 16 a ?_ ?_
 refine ar.fH (df [(0,10),(16,0),(10,0),(11,5),(17,1),(18,0),(19,2)]) [0,9] aN a ?_
 refine P (Kg ah.e5 q.A h.hD (⟨id,am,aE,a1,bM,q.x,q.aY+1⟩:T) F zf ao.e8 (g.uy pf) zn ao.bf.mm rX hm) ?_
 intro ayP
 intro Tc
 refine aD 3 ?_
 refine w.one (ax.row 0 a) (fun Vz=>?_)
 refine w.cq (aq.gy 11 pE Vz a a a a) ?_
 rintro _ _ rfl
 refine P (vE h ({ ah with ae:=hc,gK:=mD,e5:=Tc }:g.ct) ({ q with aY:=q.aY+1,d:=(g.cY h q.d am) }:g.cu) dE D5 (Value.slice none 0 0) (([]:List aK)++[(⟨1,q.x,h.al,id,0,am,(g.cY h q.d am).aa⟩:aK)]) ([]:List bk) F 5) ?_
 rintro _ _ ⟨aej,F100,rfl,rfl⟩
 refine P (ku h ({ ah with ae:=hc,gK:=mD,e5:=Tc }:g.ct) ({ q with aY:=q.aY+1,d:=(g.cY h q.d am),bz:=(g.gJ q.bz h.fW.toNat id),A:=(g.eL ((q.A++[(⟨id,am,aE,a1,bM,q.x,q.aY+1⟩:T)]).filter fun aI=>decide (aI.id≠F.id))) }:g.cu) dE aej F100 ((([]:List aK)++[(⟨1,q.x,h.al,id,0,am,(g.cY h q.d am).aa⟩:aK)])++[g.ek q.x h.al (F,5)]) (([]:List bk)++[g.eB h.al (g.cY h q.d am) (F,5)]) bu aJ zj Vz ga t' gN jW ao.n ⟨ao.b1.ez,ao.b1.eA⟩ zk) ?_
 rintro _ _ ⟨axq,aeC,ae5,afw,an2,rfl,akU,amf,amI,hjl110,hel111,rfl⟩
 refine I 1 ?_
 refine w.one (ax.row 2 a) (fun Vo=>?_)
 refine w.one (ax.row 7 a) (fun azl=>?_)
 refine aF ?_
 exact aO (by have dk:g.je h q id aE O am a1 bM=(g.fx h ({ q with aY:=q.aY+1,d:=(g.cY h q.d am),bz:=(g.gJ q.bz h.fW.toNat id),A:=(g.eL ((q.A++[(⟨id,am,aE,a1,bM,q.x,q.aY+1⟩:T)]).filter fun aI=>decide (aI.id≠F.id))) }:g.cu) ((([]:List aK)++[(⟨1,q.x,h.al,id,0,am,(g.cY h q.d am).aa⟩:aK)])++[g.ek q.x h.al (F,5)]) (([]:List bk)++[g.eB h.al (g.cY h q.d am) (F,5)])):=LF;rw [dk];exact ⟨_,_,({ ah with ae:=hc,gK:=mD,eD:=ae5,e5:=aeC }:g.ct),afw,an2,rfl,⟨akU,amf,(by have fe:=amI;have au:=rW;first|omega|(dsimp only at *;omega))⟩,kx⟩)
 refine ar.fH (df [(0,10),(10,0),(11,5),(16,0),(17,1),(18,0),(19,2)]) [0,9] aN a ?_
 refine P (Kg ah.e5 q.A h.hD (⟨id,am,aE,a1,bM,q.x,q.aY+1⟩:T) F zf ao.e8 (g.uy pf) zn ao.bf.mm rX hm) ?_
 intro SV
 refine aD 5 ?_
 intro ajj
 refine w.one (ax.row 1 a) (fun Vp=>?_)
 refine w.cq (aq.gy 11 pE Vp a a a a) ?_
 rintro _ _ rfl
 refine P (vE h ({ ah with ae:=hc,gK:=mD,e5:=SV }:g.ct) ({ q with aY:=q.aY+1,d:=(g.cY h q.d am) }:g.cu) dE D5 (Value.slice none 0 0) (([]:List aK)++[(⟨1,q.x,h.al,id,0,am,(g.cY h q.d am).aa⟩:aK)]) ([]:List bk) F 5) ?_
 rintro _ _ ⟨adY,F120,rfl,rfl⟩
 refine P (ku h ({ ah with ae:=hc,gK:=mD,e5:=SV }:g.ct) ({ q with aY:=q.aY+1,d:=(g.cY h q.d am),bz:=(g.gJ q.bz h.fW.toNat id),A:=(g.eL ((q.A++[(⟨id,am,aE,a1,bM,q.x,q.aY+1⟩:T)]).filter fun aI=>decide (aI.id≠F.id))) }:g.cu) dE adY F120 ((([]:List aK)++[(⟨1,q.x,h.al,id,0,am,(g.cY h q.d am).aa⟩:aK)])++[g.ek q.x h.al (F,5)]) (([]:List bk)++[g.eB h.al (g.cY h q.d am) (F,5)]) bu aJ zj Vp ga t' gN jW ao.n ⟨ao.b1.ez,ao.b1.eA⟩ zk) ?_
 rintro _ _ ⟨axt,aeF,ae8,afy,an4,rfl,akW,amh,amK,hjl130,hel131,rfl⟩
 refine I 1 ?_
 refine w.one (ax.row 2 a) (fun ajX=>?_)
 refine w.one (ax.row 7 a) (fun azq=>?_)
 refine aF ?_
 exact aO (by have dk:g.je h q id aE O am a1 bM=(g.fx h ({ q with aY:=q.aY+1,d:=(g.cY h q.d am),bz:=(g.gJ q.bz h.fW.toNat id),A:=(g.eL ((q.A++[(⟨id,am,aE,a1,bM,q.x,q.aY+1⟩:T)]).filter fun aI=>decide (aI.id≠F.id))) }:g.cu) ((([]:List aK)++[(⟨1,q.x,h.al,id,0,am,(g.cY h q.d am).aa⟩:aK)])++[g.ek q.x h.al (F,5)]) (([]:List bk)++[g.eB h.al (g.cY h q.d am) (F,5)])):=LF;rw [dk];exact ⟨_,_,({ ah with ae:=hc,gK:=mD,eD:=ae8,e5:=aeF }:g.ct),afy,an4,rfl,⟨akW,amh,(by have fe:=amK;have au:=rW;first|omega|(dsimp only at *;omega))⟩,kx⟩)
 refine ar.fH (df [(0,6),(6,0),(7,3),(10,0),(11,0),(12,1)]) [3,6] aN a ?_
 refine P YL ?_
 intro n2
 refine aD 3 ?_
 intro ays
 refine aL.one a (fun _ c=>by cases c<;>rfl) (ax.row 1 a) (fun Ab=>?_)
 refine aD 4 ?_
 refine K.kk Tryz.bE aN ?_
 refine aU ?_ ?_
 refine I 0 ?_
 intros
 refine K.fD 11 Tryz.bE aN ?_
 refine P (k0 h ({ ah with ae:=hc,gK:=n2 }:g.ct) ({ q with d:=(g.cY h q.d am) }:g.cu) dE (Value.slice none 0 0) (Value.slice none 0 0) ([]:List aK) 1 id 3 am ((g.cY h q.d am).aa)) ?_
 refine I 0 ?_
 intro ad3
 refine K.sB 21 20 12 [.b 0,.b 0,.b 0,.b 0,.b 0,.b 0,.b 0] Tryz.bE aN a a aba a ?_
 refine aD 9 ?_
 intro ayt
 refine P (vE h ({ ah with ae:=hc,gK:=n2 }:g.ct) ({ q with d:=(g.cY h q.d am) }:g.cu) dE ad3 (Value.slice none 0 0) (([]:List aK)++[(⟨1,q.x,h.al,id,3,am,(g.cY h q.d am).aa⟩:aK)]) ([]:List bk) (⟨id,am,aE,a1,bM,q.x,q.aY+1⟩:T) 3) ?_
 rintro _ _ ⟨ad4,F144,rfl,rfl⟩
 refine P (ku h ({ ah with ae:=hc,gK:=n2 }:g.ct) ({ q with d:=(g.cY h q.d am),bz:=(g.gJ q.bz h.fW.toNat id) }:g.cu) dE ad4 F144 ((([]:List aK)++[(⟨1,q.x,h.al,id,3,am,(g.cY h q.d am).aa⟩:aK)])++[g.ek q.x h.al ((⟨id,am,aE,a1,bM,q.x,q.aY+1⟩:T),3)]) (([]:List bk)++[g.eB h.al (g.cY h q.d am) ((⟨id,am,aE,a1,bM,q.x,q.aY+1⟩:T),3)]) bu aJ LN kH ga Ab gN jW ao.n ⟨ao.b1.ez,ao.b1.eA⟩ v7) ?_
 rintro _ _ ⟨axw,aeI,ae',afC,an8,rfl,ak0,amk,amN,hjl154,hel155,rfl⟩
 refine I 1 ?_
 refine w.one (ax.row 2 a) (fun azt=>?_)
 refine w.one (ax.row 7 a) (fun azu=>?_)
 refine aF ?_
 exact aO (by have dk:g.je h q id aE O am a1 bM=(g.fx h ({ q with d:=(g.cY h q.d am),bz:=(g.gJ q.bz h.fW.toNat id) }:g.cu) ((([]:List aK)++[(⟨1,q.x,h.al,id,3,am,(g.cY h q.d am).aa⟩:aK)])++[g.ek q.x h.al ((⟨id,am,aE,a1,bM,q.x,q.aY+1⟩:T),3)]) (([]:List bk)++[g.eB h.al (g.cY h q.d am) ((⟨id,am,aE,a1,bM,q.x,q.aY+1⟩:T),3)])):=abI;rw [dk];exact ⟨_,_,({ ah with ae:=hc,gK:=n2,eD:=ae',e5:=aeI }:g.ct),afC,an8,rfl,⟨ak0,amk,(by have fe:=amN;have au:=ao.A;first|omega|(dsimp only at *;omega))⟩,kx⟩)
 refine I 0 ?_
 intros
 refine K.kk Tryz.bE aN ?_
 refine aU ?_ ?_
 refine I 0 ?_
 intros
 refine K.fD 11 Tryz.bE aN ?_
 refine P (k0 h ({ ah with ae:=hc,gK:=n2 }:g.ct) ({ q with d:=(g.cY h q.d am) }:g.cu) dE (Value.slice none 0 0) (Value.slice none 0 0) ([]:List aK) 1 id 2 am ((g.cY h q.d am).aa)) ?_
 refine I 0 ?_
 intro ad6
 refine K.sB 21 20 12 [.b 0,.b 0,.b 0,.b 0,.b 0,.b 0,.b 0] Tryz.bE aN a a aba a ?_
 refine aD 9 ?_
 intro ayv
 refine P (vE h ({ ah with ae:=hc,gK:=n2 }:g.ct) ({ q with d:=(g.cY h q.d am) }:g.cu) dE ad6 (Value.slice none 0 0) (([]:List aK)++[(⟨1,q.x,h.al,id,2,am,(g.cY h q.d am).aa⟩:aK)]) ([]:List bk) (⟨id,am,aE,a1,bM,q.x,q.aY+1⟩:T) 2) ?_
 rintro _ _ ⟨ad7,F164,rfl,rfl⟩
 refine P (ku h ({ ah with ae:=hc,gK:=n2 }:g.ct) ({ q with d:=(g.cY h q.d am),bz:=(g.gJ q.bz h.fW.toNat id) }:g.cu) dE ad7 F164 ((([]:List aK)++[(⟨1,q.x,h.al,id,2,am,(g.cY h q.d am).aa⟩:aK)])++[g.ek q.x h.al ((⟨id,am,aE,a1,bM,q.x,q.aY+1⟩:T),2)]) (([]:List bk)++[g.eB h.al (g.cY h q.d am) ((⟨id,am,aE,a1,bM,q.x,q.aY+1⟩:T),2)]) bu aJ LN kH ga Ab gN jW ao.n ⟨ao.b1.ez,ao.b1.eA⟩ v7) ?_
 rintro _ _ ⟨axz,aeL,afc,afF,an',rfl,ak3,amo,amR,hjl174,hel175,rfl⟩
 refine I 1 ?_
 refine w.one (ax.row 2 a) (fun azz=>?_)
 refine w.one (ax.row 7 a) (fun azA=>?_)
 refine aF ?_
 exact aO (by have dk:g.je h q id aE O am a1 bM=(g.fx h ({ q with d:=(g.cY h q.d am),bz:=(g.gJ q.bz h.fW.toNat id) }:g.cu) ((([]:List aK)++[(⟨1,q.x,h.al,id,2,am,(g.cY h q.d am).aa⟩:aK)])++[g.ek q.x h.al ((⟨id,am,aE,a1,bM,q.x,q.aY+1⟩:T),2)]) (([]:List bk)++[g.eB h.al (g.cY h q.d am) ((⟨id,am,aE,a1,bM,q.x,q.aY+1⟩:T),2)])):=abD;rw [dk];exact ⟨_,_,({ ah with ae:=hc,gK:=n2,eD:=afc,e5:=aeL }:g.ct),afF,an',rfl,⟨ak3,amo,(by have fe:=amR;have au:=ao.A;first|omega|(dsimp only at *;omega))⟩,kx⟩)
 refine I 0 ?_
 intros
 refine K.fD 11 Tryz.bE aN ?_
 refine P (k0 h ({ ah with ae:=hc,gK:=n2 }:g.ct) ({ q with d:=(g.cY h q.d am) }:g.cu) dE (Value.slice none 0 0) (Value.slice none 0 0) ([]:List aK) 1 id 0 am ((g.cY h q.d am).aa)) ?_
 refine I 0 ?_
 intro Hl
 refine K.sB 21 20 12 [.b 0,.b 0,.b 0,.b 0,.b 0,.b 0,.b 0] Tryz.bE aN a a aba a ?_
 refine aD 9 ?_
 intro ayx
 refine aD 4 ?_
 rcases Q7 ((q.A.length:Int) < h.hD) with rX|rX
 have rW:(g.eL (q.A++[(⟨id,am,aE,a1,bM,q.x,q.aY+1⟩:T)])).length≤64:=aa_
 refine K.kD Tryz.bE ?_
 refine ar.gV 10 16 a ?_ ?_
 refine ar.fH (df [(0,10),(16,0),(10,0),(11,5),(17,1),(18,0),(19,2)]) [0,9] aN a ?_
 refine P (Kf ah.e5 q.A h.hD (⟨id,am,aE,a1,bM,q.x,q.aY+1⟩:T) zf ao.e8 (g.uy pf) zn ao.bf.mm rX) ?_
 intro ayy
 intro aeq
 refine aD 3 ?_
 refine w.one (ax.row 0 a) (fun NP=>?_)
 refine w.cq (aq.gy 11 pE NP a a a a) ?_
 rintro _ _ rfl
 refine P (ku h ({ ah with ae:=hc,gK:=n2,e5:=aeq }:g.ct) ({ q with aY:=q.aY+1,d:=(g.cY h q.d am),bz:=(g.gJ q.bz h.fW.toNat id),A:=(g.eL (q.A++[(⟨id,am,aE,a1,bM,q.x,q.aY+1⟩:T)])) }:g.cu) dE Hl (Value.slice none 0 0) (([]:List aK)++[(⟨1,q.x,h.al,id,0,am,(g.cY h q.d am).aa⟩:aK)]) ([]:List bk) bu aJ zj NP ga Ab gN jW ao.n ⟨ao.b1.ez,ao.b1.eA⟩ zk) ?_
 rintro _ _ ⟨axB,aeN,afe,afH,aob,rfl,ak5,amq,amT,hjl194,hel195,rfl⟩
 refine I 1 ?_
 refine w.one (ax.row 2 a) (fun azC=>?_)
 refine aF ?_
 exact aO (by have dk:g.je h q id aE O am a1 bM=(g.fx h ({ q with aY:=q.aY+1,d:=(g.cY h q.d am),bz:=(g.gJ q.bz h.fW.toNat id),A:=(g.eL (q.A++[(⟨id,am,aE,a1,bM,q.x,q.aY+1⟩:T)])) }:g.cu) (([]:List aK)++[(⟨1,q.x,h.al,id,0,am,(g.cY h q.d am).aa⟩:aK)]) ([]:List bk)):=Ly;rw [dk];exact ⟨_,_,({ ah with ae:=hc,gK:=n2,eD:=afe,e5:=aeN }:g.ct),afH,aob,rfl,⟨ak5,amq,(by have fe:=amT;have au:=rW;first|omega|(dsimp only at *;omega))⟩,kx⟩)
 refine ar.fH (df [(0,10),(10,0),(11,5),(16,0),(17,1),(18,0),(19,2)]) [0,9] aN a ?_
 refine P (Kf ah.e5 q.A h.hD (⟨id,am,aE,a1,bM,q.x,q.aY+1⟩:T) zf ao.e8 (g.uy pf) zn ao.bf.mm rX) ?_
 intro aer
 refine aD 5 ?_
 intro ayA
 refine w.one (ax.row 1 a) (fun Vs=>?_)
 refine w.cq (aq.gy 11 pE Vs a a a a) ?_
 rintro _ _ rfl
 refine P (ku h ({ ah with ae:=hc,gK:=n2,e5:=aer }:g.ct) ({ q with aY:=q.aY+1,d:=(g.cY h q.d am),bz:=(g.gJ q.bz h.fW.toNat id),A:=(g.eL (q.A++[(⟨id,am,aE,a1,bM,q.x,q.aY+1⟩:T)])) }:g.cu) dE Hl (Value.slice none 0 0) (([]:List aK)++[(⟨1,q.x,h.al,id,0,am,(g.cY h q.d am).aa⟩:aK)]) ([]:List bk) bu aJ zj Vs ga Ab gN jW ao.n ⟨ao.b1.ez,ao.b1.eA⟩ zk) ?_
 rintro _ _ ⟨axD,aeP,afg,afJ,aod,rfl,ak7,ams,amV,hjl210,hel211,rfl⟩
 refine I 1 ?_
 refine w.one (ax.row 2 a) (fun azF=>?_)
 refine aF ?_
 exact aO (by have dk:g.je h q id aE O am a1 bM=(g.fx h ({ q with aY:=q.aY+1,d:=(g.cY h q.d am),bz:=(g.gJ q.bz h.fW.toNat id),A:=(g.eL (q.A++[(⟨id,am,aE,a1,bM,q.x,q.aY+1⟩:T)])) }:g.cu) (([]:List aK)++[(⟨1,q.x,h.al,id,0,am,(g.cY h q.d am).aa⟩:aK)]) ([]:List bk)):=Ly;rw [dk];exact ⟨_,_,({ ah with ae:=hc,gK:=n2,eD:=afg,e5:=aeP }:g.ct),afJ,aod,rfl,⟨ak7,ams,(by have fe:=amV;have au:=rW;first|omega|(dsimp only at *;omega))⟩,kx⟩)
 obtain ⟨F,hm,AH,OJ,mh⟩:=g.UO (e:=(⟨id,am,aE,a1,bM,q.x,q.aY+1⟩:T)) ao.e8 (g.uy pf)
 have rW:(g.eL ((q.A++[(⟨id,am,aE,a1,bM,q.x,q.aY+1⟩:T)]).filter fun aI=>decide (aI.id≠F.id))).length≤64:=abs
 refine K.kD Tryz.bE ?_
 refine ar.gV 10 16 a ?_ ?_
 refine ar.fH (df [(0,10),(16,0),(10,0),(11,5),(17,1),(18,0),(19,2)]) [0,9] aN a ?_
 refine P (Kg ah.e5 q.A h.hD (⟨id,am,aE,a1,bM,q.x,q.aY+1⟩:T) F zf ao.e8 (g.uy pf) zn ao.bf.mm rX hm) ?_
 intro ajn
 intro S3
 refine aD 3 ?_
 refine w.one (ax.row 0 a) (fun IG=>?_)
 refine w.cq (aq.gy 11 pE IG a a a a) ?_
 rintro _ _ rfl
 refine P (vE h ({ ah with ae:=hc,gK:=n2,e5:=S3 }:g.ct) ({ q with aY:=q.aY+1,d:=(g.cY h q.d am) }:g.cu) dE Hl (Value.slice none 0 0) (([]:List aK)++[(⟨1,q.x,h.al,id,0,am,(g.cY h q.d am).aa⟩:aK)]) ([]:List bk) F 5) ?_
 rintro _ _ ⟨ad_,F219,rfl,rfl⟩
 refine P (ku h ({ ah with ae:=hc,gK:=n2,e5:=S3 }:g.ct) ({ q with aY:=q.aY+1,d:=(g.cY h q.d am),bz:=(g.gJ q.bz h.fW.toNat id),A:=(g.eL ((q.A++[(⟨id,am,aE,a1,bM,q.x,q.aY+1⟩:T)]).filter fun aI=>decide (aI.id≠F.id))) }:g.cu) dE ad_ F219 ((([]:List aK)++[(⟨1,q.x,h.al,id,0,am,(g.cY h q.d am).aa⟩:aK)])++[g.ek q.x h.al (F,5)]) (([]:List bk)++[g.eB h.al (g.cY h q.d am) (F,5)]) bu aJ zj IG ga Ab gN jW ao.n ⟨ao.b1.ez,ao.b1.eA⟩ zk) ?_
 rintro _ _ ⟨axE,aeQ,afh,afK,aoe,rfl,ak8,amt,amW,hjl229,hel230,rfl⟩
 refine I 1 ?_
 refine w.one (ax.row 2 a) (fun azG=>?_)
 refine w.one (ax.row 7 a) (fun azH=>?_)
 refine aF ?_
 exact aO (by have dk:g.je h q id aE O am a1 bM=(g.fx h ({ q with aY:=q.aY+1,d:=(g.cY h q.d am),bz:=(g.gJ q.bz h.fW.toNat id),A:=(g.eL ((q.A++[(⟨id,am,aE,a1,bM,q.x,q.aY+1⟩:T)]).filter fun aI=>decide (aI.id≠F.id))) }:g.cu) ((([]:List aK)++[(⟨1,q.x,h.al,id,0,am,(g.cY h q.d am).aa⟩:aK)])++[g.ek q.x h.al (F,5)]) (([]:List bk)++[g.eB h.al (g.cY h q.d am) (F,5)])):=LF;rw [dk];exact ⟨_,_,({ ah with ae:=hc,gK:=n2,eD:=afh,e5:=aeQ }:g.ct),afK,aoe,rfl,⟨ak8,amt,(by have fe:=amW;have au:=rW;first|omega|(dsimp only at *;omega))⟩,kx⟩)
 refine ar.fH (df [(0,10),(10,0),(11,5),(16,0),(17,1),(18,0),(19,2)]) [0,9] aN a ?_
 refine P (Kg ah.e5 q.A h.hD (⟨id,am,aE,a1,bM,q.x,q.aY+1⟩:T) F zf ao.e8 (g.uy pf) zn ao.bf.mm rX hm) ?_
 intro S4
 refine aD 5 ?_
 intro ayC
 refine w.one (ax.row 1 a) (fun Vu=>?_)
 refine w.cq (aq.gy 11 pE Vu a a a a) ?_
 rintro _ _ rfl
 refine P (vE h ({ ah with ae:=hc,gK:=n2,e5:=S4 }:g.ct) ({ q with aY:=q.aY+1,d:=(g.cY h q.d am) }:g.cu) dE Hl (Value.slice none 0 0) (([]:List aK)++[(⟨1,q.x,h.al,id,0,am,(g.cY h q.d am).aa⟩:aK)]) ([]:List bk) F 5) ?_
 rintro _ _ ⟨ad',F239,rfl,rfl⟩
 refine P (ku h ({ ah with ae:=hc,gK:=n2,e5:=S4 }:g.ct) ({ q with aY:=q.aY+1,d:=(g.cY h q.d am),bz:=(g.gJ q.bz h.fW.toNat id),A:=(g.eL ((q.A++[(⟨id,am,aE,a1,bM,q.x,q.aY+1⟩:T)]).filter fun aI=>decide (aI.id≠F.id))) }:g.cu) dE ad' F239 ((([]:List aK)++[(⟨1,q.x,h.al,id,0,am,(g.cY h q.d am).aa⟩:aK)])++[g.ek q.x h.al (F,5)]) (([]:List bk)++[g.eB h.al (g.cY h q.d am) (F,5)]) bu aJ zj Vu ga Ab gN jW ao.n ⟨ao.b1.ez,ao.b1.eA⟩ zk) ?_
 rintro _ _ ⟨axF,aeR,afi,afL,aof,rfl,ak9,amu,amX,hjl249,hel250,rfl⟩
 refine I 1 ?_
 refine w.one (ax.row 2 a) (fun azK=>?_)
 refine w.one (ax.row 7 a) (fun azL=>?_)
 refine aF ?_
 exact aO (by have dk:g.je h q id aE O am a1 bM=(g.fx h ({ q with aY:=q.aY+1,d:=(g.cY h q.d am),bz:=(g.gJ q.bz h.fW.toNat id),A:=(g.eL ((q.A++[(⟨id,am,aE,a1,bM,q.x,q.aY+1⟩:T)]).filter fun aI=>decide (aI.id≠F.id))) }:g.cu) ((([]:List aK)++[(⟨1,q.x,h.al,id,0,am,(g.cY h q.d am).aa⟩:aK)])++[g.ek q.x h.al (F,5)]) (([]:List bk)++[g.eB h.al (g.cY h q.d am) (F,5)])):=LF;rw [dk];exact ⟨_,_,({ ah with ae:=hc,gK:=n2,eD:=afi,e5:=aeR }:g.ct),afL,aof,rfl,⟨ak9,amu,(by have fe:=amX;have au:=rW;first|omega|(dsimp only at *;omega))⟩,kx⟩)
def atS(h:g.b3)(d:g.dM)(ae eD:Value)(aJ:List Int)(uj:Value.oneCell' ae=true)(gN:Value.oneCell' eD=true)(bf:h.bC)(R:d.bC h)(bU:g.rz d aJ)(ix:aJ.length≤99000):M prog 171 #[.agg #[h.ap,d.cb,d.bJ,d.bR,d.b4,d.bY,d.b_,d.cy,ae,eD,d.cA,d.held,h.bm,d.aR,d.gh,d.aa,d.aP]] [bF ae 1 ((d.S.take h.ap.toNat).map bH),bF eD 1 (aJ.map bH)] [] (fun m B=>∃ X is j4,m=.tuple #[.agg #[h.ap,.b ((g.gs h d).cb),.b ((g.gs h d).bJ),.b ((g.gs h d).bR),.b ((g.gs h d).b4),.b ((g.gs h d).bY),.b ((g.gs h d).b_),.b ((g.gs h d).cy),X,Value.slice none 0 0,.b ((g.gs h d).cA),.b ((g.gs h d).held),h.bm,.b ((g.gs h d).aR),.b ((g.gs h d).gh),.b ((g.gs h d).aa),.b ((g.gs h d).aP)],.agg #[.b (g.sx d),.b (g.gs h d).aa,.b (g.gs h d).aR,.b (g.gs h d).aP,.bool is,.bool j4]]∧B=[row X 3 1 (((g.gs h d).S.take h.ap.toNat).map bH)]):=by
 have dx:=bf.gB;have fe:=bf.hm;have h4_:=R.aw
 have au:=auu h.ap d.cb d.bJ d.bR d.b4 d.bY d.b_ d.cy d.cA d.held h.bm d.aR d.gh d.aa d.aP ae eD (d.S.take h.ap.toNat) d.S aJ uj gN vX (g.av' E) vX ix R.ne R.nz R.kY R.gk R.KF (g.aoO R.h_) R.jl R.lg bf.lh
 rw [←bU.eA,←bU.ez] at au
 rw [show (g.gs h d).S.take h.ap.toNat=List.replicate h.ap.toNat (0:Int) from g.Qq E]
 refine au.xm fun m B c=>?_
 obtain ⟨X,mH,qY⟩:=c
 exact ⟨X,_,_,mH,qY⟩
def at2(h:g.b3)(ah:g.ct)(q:g.cu)(aJ:List Int)(bu:List a7)(ao:g.nW h q aJ bu):M prog 71 #[ah.s] [bF ah.ej 14 (h.k1.map cj.cells),bF ah.dA 4 (h.bb.map cG.cells)] (nk h ah q aJ bu) (fun m B=>∃ (dS dK:Value) (l_:g.ct) (dY:List Int) (jn:List a7),m=.agg #[dS,dK]∧g.wa h (g.pp h q).1 dY aJ jn∧B=nk h (g.ct.as ah l_) (g.pp h q).1 dY jn++[row dS 51 7 (((g.pp h q).2.1).map aK.cells),row dK 62 23 (((g.pp h q).2.2.1).map bk.cells)]):=by
 have:=ao.z
 have ⟨_,_,_,_,_⟩:=ao.L
 have:=kv (fun e:T=>!decide (g.ew e (g.later q.x 1)=0)) q.A
 have:=g.O7 q.x 1
 have:=kv (fun e:T=>decide (g.ew e (g.later q.x 1)=0)) q.A
 have kF:Value.oneCell' (Value.slice none 0 0)=true:=rfl
 have Av:=ao.yC
 refine M.aM func71 a ntmps71 a fun an=>?_
 refine aD 0 ?_
 refine w.one (ax.row 2 a) (fun kG=>?_)
 refine w.one (ax.row 3 a) (fun gN=>?_)
 refine w.one (ax.row 4 a) (fun kH=>?_)
 refine w.one (ax.row 5 a) (fun ga=>?_)
 refine w.one (ax.row 7 a) (fun sW=>?_)
 refine w.fg 51 7 (([]:List aK).map aK.cells) a<|w.fg 62 23 (([]:List bk).map bk.cells) a ?_
 refine P Y3 ?_
 refine I 1 ?_
 intro _ cS
 refine K.ef (df [(0,8),(8,0),(9,5)]) [4] Tryz.bE aN a ?_
 refine P auL ?_
 rintro _ _ ⟨fd,lv,rfl,rfl⟩
 refine aD 1 ?_
 refine w.one (ax.row 0 a) (fun ua=>?_)
 refine w.cq (aq.gy 6 pE ua a a a a) ?_
 rintro _ _ rfl
 refine I 0 ?_
 refine de (bo:=Nat×Value×Value×List aK×List bk) (fun (d,EVa,FVa,fm,gG)=>d≤(q.A.filter fun e=>!decide (g.ew e (g.later q.x 1)=0)).length∧fm=((q.A.filter fun e=>!decide (g.ew e (g.later q.x 1)=0)).take d).map (fun e=>g.ek (g.later q.x 1) h.al (e,g.ew e (g.later q.x 1)))∧gG=((q.A.filter fun e=>!decide (g.ew e (g.later q.x 1)=0)).take d).map (fun e=>g.eB h.al q.d (e,g.ew e (g.later q.x 1)))) (fun (d,EVa,FVa,fm,gG)=>[(6,.b (d:Int))]) (fun (d,EVa,FVa,fm,gG)=>[ai cS [EVa,FVa] 36,row FVa 62 23 (gG.map bk.cells),row EVa 51 7 (fm.map aK.cells)]) (fun (d,EVa,FVa,fm,gG)=>(q.A.filter fun e=>!decide (g.ew e (g.later q.x 1)=0)).length-d) ⟨0,Value.slice none 0 0,Value.slice none 0 0,([]:List aK),([]:List bk)⟩ [0,2,3,5] ⟨by omega,rfl,rfl⟩ ?_
 rintro ⟨d,EVa,FVa,fm,gG⟩ ⟨Ay,hea,hfa⟩
 refine aU ?_ ?_
 refine I 0 ?_
 intros
 refine K.hW 14 Tryz.bE aN ?_
 refine aD 0 ?_
 obtain ⟨gU,sM⟩:=c4 (f:=q.A.filter fun e=>!decide (g.ew e (g.later q.x 1)=0)) (b:=d) E
 refine P Y1 ?_
 refine P (vE h ({ ah with e5:=fd }:g.ct) ({ q with x:=g.later q.x 1 }:g.cu) cS EVa FVa fm gG gU (g.ew gU (g.later q.x 1)) G0 G0) ?_
 rintro _ _ ⟨xI,F11,rfl,rfl⟩
 refine aD 1 ?_
 exact da ⟨d+1,xI,F11,fm++[g.ek (g.later q.x 1) h.al (gU,g.ew gU (g.later q.x 1))],gG++[g.eB h.al q.d (gU,g.ew gU (g.later q.x 1))]⟩ ⟨by omega,(by rw [hx,sM,gR,←hea];rfl),(by rw [hx,sM,gR,←hfa];rfl)⟩
 refine I 0 ?_
 intros
 refine de (bo:=Nat×Value×Value×List aK×List bk×List a7×Value×List cI) (fun (gO,EVb,FVb,lc,rI,nF,i_,sd)=>gO≤q.n.length∧g.oZ h ({ q with x:=g.later q.x 1 }:g.cu) fm gG gO (nF.map a7.cL) sd lc rI∧Value.oneCell' i_=true) (fun (gO,EVb,FVb,lc,rI,nF,i_,sd)=>[(7,.b (gO:Int))]) (fun (gO,EVb,FVb,lc,rI,nF,i_,sd)=>[ai cS [EVb,FVb] 36,row FVb 62 23 (rI.map bk.cells),row EVb 51 7 (lc.map aK.cells),ai ah.s (g.kt h ({ ah with e5:=fd,fj:=i_ }:g.ct) ({ q with x:=g.later q.x 1 }:g.cu)) 125,row ah.jU 68 9 (nF.map a7.cells),c1 (nF.map (a7.row 3)),row i_ 320 2 (sd.map cI.cells)]) (fun (gO,EVb,FVb,lc,rI,nF,i_,sd)=>q.n.length-gO) ⟨0,EVa,FVa,fm,gG,bu,ah.fj,q.j⟩ [0,2,3] ⟨by omega,(by rw [ao.n];exact g.oZ.zero (q:=({ q with x:=g.later q.x 1 }:g.cu))),sW⟩ ?_
 rintro ⟨gO,EVb,FVb,lc,rI,nF,i_,sd⟩ ⟨sQ,mj,hvjb⟩
 have:=g.w1 mj sQ
 have:=(g.w1 mj sQ).2.2.2
 refine aU ?_ ?_
 refine I 0 ?_
 intros
 obtain ⟨gA,pa⟩:=c4 (f:=nF) (b:=gO) E
 rcases g.ao3 (g.later q.x 1) gA with ⟨hu,ca⟩|⟨hu,oF,ca⟩|⟨hu,oF,ca⟩
 refine K.fD 21 Tryz.bE aN ?_
 refine aD 3 ?_
 refine aj.kK 73 a (p4 hu) ?_
 exact adI
 refine K.fD 21 Tryz.bE aN ?_
 refine aD 3 ?_
 refine aj.od 73 a (c9 hu) ?_
 refine P (Ym gA.e.id gA.e.am gA.e.cg gA.e.ck gA.e.eN gA.e.dm gA.e.seq gA.bg (g.later q.x 1) gA.m gA.ok) ?_
 refine P (re h ({ ah with e5:=fd,fj:=i_ }:g.ct) ({ q with x:=g.later q.x 1,A:=(q.A.filter fun e=>decide (g.ew e (g.later q.x 1)=0)),n:=(nF.map a7.cL),j:=sd }:g.cu) cS EVb FVb lc rI nF gO gA 6 G0 G0 ga hvjb RD (by have au:=ao.j;have qY:=g.w1 mj sQ;(try dsimp only);omega) pa) ?_
 rintro _ _ ⟨L8,F17,Mp,rfl,rfl⟩
 refine w.dw 2 a ?_
 refine K.one (ax.row 6 a) (fun al_=>?_)
 refine aD 1 ?_
 exact da ⟨gO+1,L8,F17,lc++[g.ek (g.later q.x 1) h.al (gA.e,6)],rI++[g.eB h.al q.d (gA.e,6)],(nF.set gO a7.zero),Mp,bj.drop sd gA.e.id⟩ ⟨abj,(by rw [g.Dg];exact mj.go (by rw [hy,pa];rfl) ca),al_⟩
 refine K.fD 21 Tryz.bE aN ?_
 refine aD 3 ?_
 refine aj.od 73 a (c9 hu) ?_
 refine P (Ym gA.e.id gA.e.am gA.e.cg gA.e.ck gA.e.eN gA.e.dm gA.e.seq gA.bg (g.later q.x 1) gA.m gA.ok) ?_
 exact adI
 refine I 0 ?_
 intros
 refine K.kk Tryz.bE aN<|aj.Z 3 a<|aj.A (aV.br 3 ds a a a) a<|aj.Z 4 a<|aj.A (aV.br 3 ds a a a) a<|aj.n (U.J6 a a abG abG) a<|aj.Z 1 a<|aj.qT ?_
 refine aU ?_ ?_
 refine aD 1 ?_
 intros
 refine P atS ?_
 rintro _ _ ⟨zH,agV,b24,rfl,rfl⟩
 refine I 2 ?_
 intros
 refine w.one (ax.row 2 a) (fun NR=>?_)
 refine P (k0 h ({ ah with gK:=zH,eD:=Value.slice none 0 0,e5:=fd,fj:=i_ }:g.ct) ({ q with x:=g.later q.x 1,d:=(g.gs h q.d) }:g.cu) cS EVb FVb lc 9 ((g.gs h q.d).aP) (g.sx q.d) ((g.gs h q.d).aa) ((g.gs h q.d).aR) G0) ?_
 intro Sw
 refine w.dw 2 a<|K.fg 3 1 (([]:List Int).map bH) a ?_
 refine P (ku h ({ ah with gK:=zH,eD:=Value.slice none 0 0,e5:=fd,fj:=i_ }:g.ct) ({ q with x:=g.later q.x 1,d:=(g.gs h q.d),A:=(q.A.filter fun e=>decide (g.ew e (g.later q.x 1)=0)),n:=(nF.map a7.cL),j:=sd }:g.cu) cS Sw FVb (lc++[(⟨9,(g.later q.x 1),h.al,(g.gs h q.d).aP,g.sx q.d,(g.gs h q.d).aa,(g.gs h q.d).aR⟩:aK)]) rI nF ([]:List Int) abx ua ga NR kF RD a ⟨a,a⟩ abM) ?_
 rintro _ _ ⟨aec,aeU,afl,afO,aoi,rfl,ala,amx,am0,hjl39,hel40,rfl⟩
 refine I 1 ?_
 refine w.one (ax.row 2 a) (fun NS=>?_)
 refine w.one (ax.row 10 a) (fun NT=>?_)
 refine aF ?_
 exact aO (by have dk:g.pp h q=(g.fx h ({ q with x:=g.later q.x 1,d:=(g.gs h q.d),A:=(q.A.filter fun e=>decide (g.ew e (g.later q.x 1)=0)),n:=(nF.map a7.cL),j:=sd }:g.cu) (lc++[(⟨9,(g.later q.x 1),h.al,(g.gs h q.d).aP,g.sx q.d,(g.gs h q.d).aa,(g.gs h q.d).aR⟩:aK)]) rI):=(by have Oq:nF.length=q.n.length:=(by exact (g.w1 mj sQ).2.2.2);obtain ⟨zU,e2_,e3_,e4_⟩:=mj.all (by rw [←Oq];omega);have EJ:fm=(q.A.filter fun e=>!decide (g.ew e (g.later q.x 1)=0)).map (fun e=>g.ek (g.later q.x 1) h.al (e,g.ew e (g.later q.x 1))):=aBR;have e6_:gG=(q.A.filter fun e=>!decide (g.ew e (g.later q.x 1)=0)).map (fun e=>g.eB h.al q.d (e,g.ew e (g.later q.x 1))):=(by rw [hfa,ir E]);rw [zU,e2_,e3_,e4_,EJ,e6_];exact g.awi bO ao.X6);rw [dk];exact ⟨_,_,({ ah with gK:=zH,eD:=afl,e5:=aeU,fj:=i_ }:g.ct),afO,aoi,rfl,⟨ala,amx,(by have fe:=am0;have au:=ao.A;have sJ:=kv (fun e:T=>decide (g.ew e (g.later q.x 1)=0)) q.A;first|omega|(dsimp only at *;omega)|(simp only [fq] at *;omega))⟩,kx⟩)
 refine aD 0 ?_
 intros
 refine P (ku h ({ ah with e5:=fd,fj:=i_ }:g.ct) ({ q with x:=g.later q.x 1,A:=(q.A.filter fun e=>decide (g.ew e (g.later q.x 1)=0)),n:=(nF.map a7.cL),j:=sd }:g.cu) cS EVb FVb lc rI nF aJ abx ua ga kG gN RD a ao.b1 abM) ?_
 rintro _ _ ⟨D4,aeW,afn,Mv,OW,rfl,alc,amz,am2,hjl52,hel53,rfl⟩
 refine I 1 ?_
 refine w.one (ax.row 2 a) (fun azZ=>?_)
 refine w.one (ax.row 7 a) (fun aj6=>?_)
 refine aF ?_
 exact aO (by have dk:g.pp h q=(g.fx h ({ q with x:=g.later q.x 1,A:=(q.A.filter fun e=>decide (g.ew e (g.later q.x 1)=0)),n:=(nF.map a7.cL),j:=sd }:g.cu) lc rI):=(by have Oq:nF.length=q.n.length:=(by exact (g.w1 mj sQ).2.2.2);obtain ⟨zU,e2_,e3_,e4_⟩:=mj.all (by rw [←Oq];omega);have EJ:fm=(q.A.filter fun e=>!decide (g.ew e (g.later q.x 1)=0)).map (fun e=>g.ek (g.later q.x 1) h.al (e,g.ew e (g.later q.x 1))):=aBR;have e6_:gG=(q.A.filter fun e=>!decide (g.ew e (g.later q.x 1)=0)).map (fun e=>g.eB h.al q.d (e,g.ew e (g.later q.x 1))):=(by rw [hfa,ir E]);rw [zU,e2_,e3_,e4_,EJ,e6_];exact g.awj bO ao.X6);rw [dk];exact ⟨_,_,({ ah with eD:=afn,e5:=aeW,fj:=i_ }:g.ct),Mv,OW,rfl,⟨alc,amz,(by have fe:=am2;have au:=ao.A;have sJ:=kv (fun e:T=>decide (g.ew e (g.later q.x 1)=0)) q.A;first|omega|(dsimp only at *;omega)|(simp only [fq] at *;omega))⟩,kx⟩)
def at1(h:g.b3)(d:g.dM)(ae eD:Value)(uj:Value.oneCell' ae=true)(gN:Value.oneCell' eD=true)(bf:h.bC)(R:d.bC h):M prog 172 #[.agg #[h.ap,d.cb,d.bJ,d.bR,d.b4,d.bY,d.b_,d.cy,ae,eD,d.cA,d.held,h.bm,d.aR,d.gh,d.aa,d.aP]] [] [] (fun m B=>∃ X,m=.agg #[h.ap,.b ((g.iB h d).cb),.b ((g.iB h d).bJ),.b ((g.iB h d).bR),.b ((g.iB h d).b4),.b ((g.iB h d).bY),.b ((g.iB h d).b_),.b ((g.iB h d).cy),X,Value.slice none 0 0,.b ((g.iB h d).cA),.b ((g.iB h d).held),h.bm,.b ((g.iB h d).aR),.b ((g.iB h d).gh),.b ((g.iB h d).aa),.b ((g.iB h d).aP)]∧B=[row X 3 1 (((g.iB h d).S.take h.ap.toNat).map bH)]):=by
 have dx:=bf.gB;have fe:=bf.hm
 rw [show (g.iB h d).S.take h.ap.toNat=List.replicate h.ap.toNat (0:Int) from g.Qq E]
 exact auH h.ap d.cb d.bJ d.bR d.b4 d.bY d.b_ d.cy d.cA d.held h.bm d.aR d.gh d.aa d.aP ae eD uj gN E fe R.ne R.nz
def at0(h:g.b3)(ah:g.ct)(q:g.cu)(aJ:List Int)(bu:List a7)(ao:g.nW h q aJ bu):M prog 72 #[ah.s] [bF ah.ej 14 (h.k1.map cj.cells),bF ah.dA 4 (h.bb.map cG.cells)] (nk h ah q aJ bu) (fun m B=>∃ (dS dK:Value) (l_:g.ct) (dY:List Int) (jn:List a7),m=.agg #[dS,dK]∧g.wa h (g.uC h q).1 dY aJ jn∧B=nk h (g.ct.as ah l_) (g.uC h q).1 dY jn++[row dS 51 7 (((g.uC h q).2.1).map aK.cells),row dK 62 23 (((g.uC h q).2.2.1).map bk.cells)]):=by
 have:=ao.z
 have ⟨_,_,_,_,_⟩:=ao.L
 have:=kv (fun k:a7=>decide (k.bg≠0)) bu
 have kF:Value.oneCell' (Value.slice none 0 0)=true:=rfl
 have Av:=ao.yC
 refine M.aM func72 a ntmps72 a fun an=>?_
 refine aD 0 ?_
 refine w.one (ax.row 2 a) (fun kG=>?_)
 refine w.one (ax.row 3 a) (fun gN=>?_)
 refine w.one (ax.row 4 a) (fun kH=>?_)
 refine w.one (ax.row 5 a) (fun ga=>?_)
 refine w.one (ax.row 7 a) (fun sW=>?_)
 refine w.fg 51 7 (([]:List aK).map aK.cells) a<|w.fg 62 23 (([]:List bk).map bk.cells) a ?_
 refine I 2 ?_
 intro _ cS
 refine de (bo:=Nat×Value×List aK) (fun (d,EVa,fm)=>d≤q.A.length∧fm=(q.A.take d).map (g.x_ q.x h.al)) (fun (d,EVa,fm)=>[(4,.b (d:Int))]) (fun (d,EVa,fm)=>[ai cS [EVa,Value.slice none 0 0] 36,row EVa 51 7 (fm.map aK.cells)]) (fun (d,EVa,fm)=>q.A.length-d) ⟨0,Value.slice none 0 0,([]:List aK)⟩ [0,2,3] ⟨by omega,rfl⟩ ?_
 rintro ⟨d,EVa,fm⟩ ⟨Ay,hea⟩
 refine aU ?_ ?_
 refine I 0 ?_
 intros
 refine K.fD 17 Tryz.bE aN ?_
 refine aD 1 ?_
 obtain ⟨cQ,h3⟩:=c4 (f:=q.A) (b:=d) E
 refine P (k0 h ah q cS EVa (Value.slice none 0 0) fm 12 cQ.id 0 cQ.am 0 Ry) ?_
 refine aD 1 ?_
 intro Mc
 exact da ⟨d+1,Mc,fm++[(⟨12,q.x,h.al,cQ.id,0,cQ.am,0⟩:aK)]⟩ ⟨by omega,(by rw [hx,h3,gR,←hea];rfl)⟩
 refine I 0 ?_
 intros
 refine w.f (aq.fl call62 (YJ h ah q bu E ga) [] a a (.fy 4 a a (.eo 9 jz a a .nil))) a ?_
 rintro KD _ ⟨_,rfl,rfl⟩
 refine I 0 ?_
 refine de (bo:=Nat×Value×List aK) (fun (gO,EVb,lc)=>gO≤(bu.filter (fun k:a7=>decide (k.bg≠0))).length∧lc=fm++((bu.filter (fun k:a7=>decide (k.bg≠0))).take gO).map (fun k=>g.x_ q.x h.al k.e)) (fun (gO,EVb,lc)=>[(6,.b (gO:Int))]) (fun (gO,EVb,lc)=>[ai cS [EVb,Value.slice none 0 0] 36,row EVb 51 7 (lc.map aK.cells)]) (fun (gO,EVb,lc)=>(bu.filter (fun k:a7=>decide (k.bg≠0))).length-gO) ⟨0,EVa,fm⟩ [0,2,3,5] ⟨by omega,by simp⟩ ?_
 rintro ⟨gO,EVb,lc⟩ ⟨sQ,Oe⟩
 refine aU ?_ ?_
 refine I 0 ?_
 intros
 refine K.fD 13 Tryz.bE aN ?_
 refine aD 0 ?_
 obtain ⟨gU,sM⟩:=c4 (f:=(bu.filter (fun k:a7=>decide (k.bg≠0)))) (b:=gO) E
 refine P (k0 h ah q cS EVb (Value.slice none 0 0) lc 12 gU.e.id 0 gU.e.am 0 Ry) ?_
 refine aD 1 ?_
 intro xI
 exact da ⟨gO+1,xI,lc++[(⟨12,q.x,h.al,gU.e.id,0,gU.e.am,0⟩:aK)]⟩ ⟨by omega,(by rw [hx,sM,gR,←ia,←Oe];rfl)⟩
 refine I 0 ?_
 intros
 refine w.cq (aq.gy 5 pE kF a a a a) ?_
 rintro _ _ rfl
 refine I 1 ?_
 refine w.f (aq.yH (aI:=((⟨(⟨0,0,0,0,0,0,0⟩:T),0,Value.slice none 0 0,[],kF⟩:a7):a7)) (z:=a7.cells) (t:=h.b1.toNat) (H:=9) (bytes:=88) ws (fun j=>run_typeInfo j (by exact (wY).1)) abk j3 j2 a a Lu Lu bd a a bd a) a ?_
 rintro mX _ rfl
 refine I 0 ?_
 refine w.one (ax.row 0 a) (fun vb=>?_)
 refine w.cq (aq.gy 6 sizeOf57 vb a a a a) ?_
 rintro _ _ rfl
 refine I 0 ?_
 refine w.cq (aq.gy 6 xZ kF a a a a) ?_
 rintro _ _ rfl
 refine I 0 ?_
 refine w.cq (aq.gy 6 sizeOf71 kF a a a a) ?_
 rintro _ _ rfl
 refine I 0 ?_
 refine w.cq (aq.gy 6 tO kF a a a a) ?_
 rintro _ _ rfl
 refine P at1 ?_
 refine I 0 ?_
 intro pA
 refine w.one (ax.row 0 a) (fun Cw=>?_)
 refine I 1 ?_
 refine K.fD 11 Tryz.bE aN ?_
 refine P (k0 h ({ ah with ae:=Value.slice none 0 0,gK:=pA,eD:=Value.slice none 0 0,e5:=Value.slice none 0 0,jU:=mX,fj:=Value.slice none 0 0,hp:=Value.slice none 0 0 }:g.ct) ({ q with d:=(g.iB h q.d) }:g.cu) cS EVb (Value.slice none 0 0) lc 11 ((g.iB h q.d).aP) 0 ((g.iB h q.d).aa) 0 Ry) ?_
 refine I 1 ?_
 intro Hk
 refine w.one (ax.row 1 a) (fun t'=>?_)
 refine w.cq (aq.dC 5 o2 a a a a a (by simp only [k8,ri,jV,t',kF]<;>rfl) a) ?_
 rintro _ _ rfl
 refine w.nil<|K.fg 66 7 (([]:List T).map T.cells) a<|K.fg 320 2 (([]:List cI).map cI.cells) a<|K.fg 175 4 (([]:List cR).map cR.cells) a<|K.fg 3 1 (([]:List Int).map bH) a<|K.fg 3 1 (([]:List Int).map bH) a<|K.hv (a'.trans (a'.bz [0,1,2,3,4,5,6,7,8,9,10,11,12,13,14,15,16,17,18,19,20] a) (a'.wQ a'.P2))<|K.hv (OZ (Y:=3) h.b1.toNat) ?_
 refine aF ?_
 exact aO (by have dk:g.uC h q=(({ q with d:=(g.iB h q.d),bz:=([]:List Int),A:=([]:List T),n:=(List.replicate h.b1.toNat g.cp.zero),j:=([]:List cI),y:=ab.nil }:g.cu),lc++[(⟨11,q.x,h.al,(g.iB h q.d).aP,0,(g.iB h q.d).aa,0⟩:aK)],([]:List bk),0):=(by have EJ:fm=q.A.map (g.x_ q.x h.al):=aBR;have e6_:lc=fm++(bu.filter (fun k:a7=>decide (k.bg≠0))).map (fun k=>g.x_ q.x h.al k.e):=(by rw [Oe,ir E]);rw [g.auk ao.n,e6_,EJ]);rw [dk];exact ⟨_,_,({ ah with ae:=Value.slice none 0 0,gK:=pA,eD:=Value.slice none 0 0,e5:=Value.slice none 0 0,jU:=mX,fj:=Value.slice none 0 0,hp:=Value.slice none 0 0 }:g.ct),([]:List Int),(List.replicate h.b1.toNat a7.zero),rfl,⟨g.Yy,⟨rfl,rfl⟩,ot⟩,rfl⟩)
end Go.Proofs.YtohjlkjhpibkmaaGreatDoor
