/-
  Rules and plain laws that the walks use.
-/
import Derived.KernelRfl
import Derived.Test.YtohjlkjhpibkmaaGreatDoorE16
import Derived.Test.YtohjlkjhpibkmaaGreatDoorE26
import Derived.Test.YtohjlkjhpibkmaaGreatDoorE15
import Derived.Test.YtohjlkjhpibkmaaGreatDoorE03
set_option linter.all false
namespace Go.Proofs.YtohjlkjhpibkmaaGreatDoor
open Go Go.LK Go.Proofs.Tryz
set_option maxRecDepth 100000
set_option maxHeartbeats 4000000
def aqU(u jJ:Nat)(h:g.b3)(N:g.aO)(s:Nat)(bf:h.bC)(aW:N.bC h)(ca:N.hb s)(aw:s≤9000):M prog 101 #[u,jJ] [ai jJ [h.s] 29] (xh h u (.slice none 0 0) (.slice none 0 0) [] []++mN h N) (fun m B=>xN h u (fun bs a_ aH r=>bs.bC h∧bs.hb (s+1)∧g.wn h N bs a_ aH r) m B):=by
 have:=bf.z
 have:=g.sY aW.b.av
 have:=ca.t
 have:=ca.i
 have:=ca.j
 have IX:=g.O7 N.x 1
 have aAF:=bf.Au
 refine M.aM func101 a ntmps101 a fun an=>?_
 refine I 0 ?_
 refine K.hW 8 Tryz.bE aN ?_
 refine P TA ?_
 refine aD 1 ?_
 refine K.ef (df [(0,8),(10,1),(8,0),(9,1)]) [3] Tryz.bE aN a ?_
 refine P (as3 h N.A (g.later N.x 1) bf aW.A) ?_
 rintro KD _ ⟨ep,mO,vo,ho4,hsr6,hp5,rfl⟩
 have rR:(g.np mO (g.later N.x 1) mO.length).length≤64:=by have e4:=g.U2 (v:=mO) (x:=g.later N.x 1) (d:=mO.length);have dx:=ho4.length_eq;have fe:=aW.A.S;have h4_:=bf.mm;omega
 refine gr.kV [1,5] [1] a a ?_
 refine aD 1 ?_
 refine de (bo:=Nat×Value×Value×List aK×List bk) (fun (b,EV1,FV1,evs1,frs1)=>b≤(g.np mO (g.later N.x 1) mO.length).length∧evs1=((g.np mO (g.later N.x 1) mO.length).take b).map (fun e=>g.ek (g.later N.x 1) h.al (e,g.ew e (g.later N.x 1)))∧frs1=((g.np mO (g.later N.x 1) mO.length).take b).map (fun e=>g.eB h.al N.d (e,g.ew e (g.later N.x 1)))) (fun (b,EV1,FV1,evs1,frs1)=>[(25,.b (b:Int))]) (fun (b,EV1,FV1,evs1,frs1)=>[ai u [h.s,EV1,FV1] 261,row EV1 51 7 (evs1.map aK.cells),row FV1 62 23 (frs1.map bk.cells)]) (fun (b,EV1,FV1,evs1,frs1)=>(g.np mO (g.later N.x 1) mO.length).length-b) ⟨0,Value.slice none 0 0,Value.slice none 0 0,[],[]⟩ [0,1,3,23,24] ⟨by omega,rfl,rfl⟩ ?_
 rintro ⟨b,EV1,FV1,evs1,frs1⟩ ⟨ac,hes,At⟩
 refine aU ?_ ?_
 refine I 0 ?_
 intros
 obtain ⟨gU,sM⟩:=c4 (f:=g.np mO (g.later N.x 1) mO.length) (b:=b) E
 refine aD 4 ?_
 intros
 refine K.hW 8 Tryz.bE aN ?_
 refine P PW ?_
 refine P (Gs h (g.later N.x 1) N.bS N.aY N.bb N.d u EV1 FV1 evs1 frs1 gU (g.ew gU (g.later N.x 1)) BD BD) ?_
 rintro _ _ ⟨St,F12,rfl,rfl⟩
 refine I 1 ?_
 exact da ⟨b+1,St,F12,evs1++[g.ek (g.later N.x 1) h.al (gU,(g.ew gU (g.later N.x 1)))],frs1++[g.eB h.al N.d (gU,(g.ew gU (g.later N.x 1)))]⟩ ⟨by omega,(by rw [g.Pf sM,←hes]),(by rw [g.Pf sM,←At])⟩
 refine aD 0 ?_
 intros
 refine P (awf h (g.later N.x 1) N.bS N.aY N.bb N.d u EV1 FV1 evs1 frs1 N.af N.cX N.dc N.cd bf aW.b BD BD) ?_
 rintro _ _ ⟨yU,jm15,ws16,wl17,Hm,F19,es20,fs21,D22,rfl,hin23,hlr24,hlt25,hwl26,rfl⟩
 have vi:=hlr24
 refine I 0 ?_
 refine K.kk Tryz.bE aN ?_
 refine aU ?_ ?_
 refine P (ah8 h N.d bf aW.d) ?_
 intro w9
 rintro _ _ ⟨Ty,b30,rfl,rfl⟩
 refine P (oN h (g.later N.x 1) N.bS N.aY N.bb u Hm F19 es20 9 ((g.gs h N.d).aP) (g.sx N.d) ((g.gs h N.d).aa) ((g.gs h N.d).aR) BD) ?_
 refine aD 0 ?_
 intro _ aee
 refine P (vK h (g.later N.x 1) N.bS N.aY N.bb (g.gs h N.d) u aee F19 (es20++[(⟨9,g.later N.x 1,h.al,(g.gs h N.d).aP,g.sx N.d,(g.gs h N.d).aa,(g.gs h N.d).aR⟩:aK)]) ep yU jm15 ws16 wl17 bf (aW.d.close bf) vo hin23 (g.I5 aW.e8 ho4 hp5 hlr24.n) BD) ?_
 rintro _ _ ⟨aoE,q36,ps37,jm38,E39,es40,S41,rfl,hk42,hq44,hin45,hon46,hfull47,rfl⟩
 refine aF ?_
 exact aO ⟨(⟨g.later N.x 1,N.bS,N.aY,N.bb,aoE,N.bz,q36,ps37,jm38,ws16,wl17,N.y⟩:g.aO),_,_,es40,fs21,0,⟨⟨hk42,aW.bz,hq44,hin45,hon46.e8 (g.I5 aW.e8 ho4 hp5 hlr24.n),IX.1,IX.2,aW.fG,aW.i',aW.gQ,aW.m'⟩,⟨by have au:=ca.t;dsimp only;omega,by have au:=ca.i;dsimp only;omega,by have au:=ca.j;have fe:=hwl26;dsimp only;omega,by omega⟩,⟨a,a,⟨a,a,a,a,a⟩,mO,ep.u,D22,yU,jm15,es20,_,fs21,S41,(g.gs h N.d),ho4,hsr6,hp5,abC,hlt25,.inr ⟨dp (c9 w9),a,a⟩,hon46,a,hfull47⟩⟩,a,a⟩
 refine P (vK h (g.later N.x 1) N.bS N.aY N.bb N.d u Hm F19 es20 ep yU jm15 ws16 wl17 bf aW.d vo hin23 (g.I5 aW.e8 ho4 hp5 hlr24.n) BD) ?_
 intro w9
 rintro _ _ ⟨aoH,q50,ps51,jm52,E53,es54,S55,rfl,hk56,hq58,hin59,hon60,hfull61,rfl⟩
 refine aF ?_
 exact aO ⟨(⟨g.later N.x 1,N.bS,N.aY,N.bb,aoH,N.bz,q50,ps51,jm52,ws16,wl17,N.y⟩:g.aO),_,_,es54,fs21,0,⟨⟨hk56,aW.bz,hq58,hin59,hon60.e8 (g.I5 aW.e8 ho4 hp5 hlr24.n),IX.1,IX.2,aW.fG,aW.i',aW.gQ,aW.m'⟩,⟨by have au:=ca.t;dsimp only;omega,by have au:=ca.i;dsimp only;omega,by have au:=ca.j;have fe:=hwl26;dsimp only;omega,by omega⟩,⟨a,a,⟨a,a,a,a,a⟩,mO,ep.u,D22,yU,jm15,es20,_,fs21,S55,N.d,ho4,hsr6,hp5,abC,hlt25,.inl ⟨fa (p4 w9),a,a⟩,hon60,a,hfull61⟩⟩,a,a⟩
def aqS(u jJ:Nat)(h:g.b3)(N:g.aO)(s:Nat)(bf:h.bC)(aW:N.bC h)(ca:N.hb s)(aw:s≤9000):M prog 107 #[u,jJ] [ai jJ [h.s] 29] (xh h u (.slice none 0 0) (.slice none 0 0) [] []++mN h N) (fun m B=>xN h u (fun bs a_ aH r=>bs.bC h∧bs.hb (s+1)∧g.wm h N bs a_ aH r) m B):=by
 refine M.aM func107 a ntmps107 a fun an=>?_
 refine I 0 ?_
 refine K.ef [(0,false),(1,false),(2,false),(3,false),(5,false),(6,false),(7,false),(8,false),(12,false),(4,true),(9,true),(10,true),(11,false)] [3] Tryz.bE aN a<|aL.A a (aV.gb 0 isAgg29 a a a) a<|aL.Z 2 a<|aL.A a (aV.br 0 isAgg84 a a a) a<|aL.A a (aV.gb 0 isAgg29 a a a) a<|aL.Z 2 a<|aL.A a (aV.br 0 isAgg85 a a a) a<|aL.Z 1 a ?_
 refine aL.f a (aq.fl call40 (Yh h N.A bf aW.A) [] a a (.fy 5 a a .nil)) a ?_
 rintro p2 _ ⟨_,⟨pV,qs,hsr3,rfl⟩,rfl⟩
 have q6:=qs.length_eq
 refine gr.kV [4] [0] a a ?_
 refine aL.f a (aq.fl call41 (Qo h N.af bf aW.b.S aW.b.av) [] a a (.fy 7 a a .nil)) a ?_
 rintro ZP _ ⟨_,rfl,rfl⟩
 refine gr.kV [5] [0] a a ?_
 refine aL.f a (aq.gg 1 px oc a a a a a (ax.row 0 a) T.one aaH aaH) a ?_
 rintro pB _ rfl
 refine gr.kV [1,5] [1] a a<|aL.A a (aV.jN iR a (ax.row 0 a)) a<|aL.nil ?_
 refine I 0 ?_
 refine K.gw (bo:=Nat×Value×List aK) (fun (b,EV1,evs1)=>b≤(pV++g.c5 N.af).length∧evs1=((pV++g.c5 N.af).take b).map (fun e:T=>(⟨12,N.x,h.al,e.id,0,e.am,0⟩:aK))) (fun (b,EV1,evs1)=>[(18,.b (b:Int))]) (fun (b,EV1,evs1)=>[ai u [h.s,EV1,Value.slice none 0 0] 261,row EV1 51 7 (evs1.map aK.cells)]) (fun (b,EV1,evs1)=>(pV++g.c5 N.af).length-b) ⟨0,Value.slice none 0 0,[]⟩ [0,1,3,16,17] [2,3] [4,1,5,6,7,8,9,10,11,12,13,14,15] ⟨by omega,rfl⟩ ⟨(hM E),trivial⟩ a a ?_
 rintro ⟨b,EV1,evs1⟩ ⟨ac,hes⟩
 refine Ss ?_ ?_
 refine I 0 ?_
 intros
 obtain ⟨hL,sL⟩:=c4 (f:=pV++(g.c5 N.af)) (b:=b) E
 refine w.A (aV.jy iR gE a (ax.row 3 a) sL a kf) a<|w.A (aV.lX qL gE (ax.row 3 a) sL 0 a E a) a ?_
 refine B3 [1,2] (oN h N.x N.bS N.aY N.bb u EV1 (Value.slice none 0 0) evs1 12 hL.id 0 hL.am 0 abJ) ?_
 refine I 0 ?_
 intro _ xI
 refine w.n (U.hJ a a (by first|omega|(have dx:=aW.A.S;have fe:=bf.mm;have h4_:=g.sY aW.b.av;have mH:=bf.gk;simp only [eh] at *;omega))) a ?_
 refine I 0 ?_
 exact K.ms ⟨b+1,xI,evs1++[(⟨12,N.x,h.al,hL.id,0,hL.am,0⟩:aK)]⟩ [0,1,3,16,17] [0,1] [3,4,5,6,7,8,9,10,11,12,13,14,15] ⟨by omega,(by rw [g.Pf sL,←hes])⟩ kR ⟨(hM E),trivial⟩ a a
 refine I 2 ?_
 intros
 refine w.f (aq.fl call108 (asZ h N.A bf aW.A) [6] a a .nil) a ?_
 rintro _ _ ⟨_,⟨q12,hq13,ht14,rfl,rfl⟩,rfl⟩
 refine B3 [7] (avU h N.af aW.b.S) ?_
 refine I 2 ?_
 refine w.cq (aq.FN 8 a jZ a a) ?_
 rintro _ _ rfl
 refine w.dw 2 a<|K.hv (a'.trans (a'.bz [9,0,1,2,3,4,5,6,7,8,10,11,12,13,14] a) (a'.wQ a'.none)) ?_
 refine I 2 ?_
 refine w.f (aq.fl call110 (axg h.j N.dc) [10] a a .nil) a ?_
 rintro _ _ ⟨_,⟨rfl,ws17,hr18,rfl⟩,rfl⟩
 refine B3 [12] (awb h.k2 h.bD N.y) ?_
 refine I 2 ?_
 refine w.f (aq.fl call112 (avC h N.bz aW.bz) [12] a a .nil) a ?_
 rintro _ _ ⟨_,⟨sn21,hsn22,hz23,hm24,rfl,rfl⟩,rfl⟩
 refine B3 [11] (aia h N.d bf aW.d) ?_
 refine I 0 ?_
 refine K.hW 5 Tryz.bE aN<|e0.n (U.move a) a<|e0.A (aV.gb 0 isAgg29 a a a) a<|e0.call (ae:=[h.s]) (fP:=[]) (by exact call17) a a (Px h N.x N.bS N.aY N.bb (g.iB h N.d)) (fun _ _ c=>c) (eI.eo 11 a vI [] bd a (eI.eo 0 a vI [] bd a eI.nil)) a<|e0.A (aV.gb 0 isAgg29 a a a) a<|e0.call (ae:=[h.s]) (fP:=[]) (by exact call18) a a (JB h N.x N.bS N.aY N.bb (g.iB h N.d)) (fun _ _ c=>c) (eI.eo 11 a vI [] bd a (eI.eo 0 a vI [] bd a eI.nil)) a<|e0.nil ?_
 refine B3 [7,8] (oN h N.x N.bS N.aY N.bb u EV1 (Value.slice none 0 0) evs1 11 ((g.iB h N.d).aP) 0 ((g.iB h N.d).aa) 0 abJ) ?_
 refine I 0 ?_
 intros
 exact K.l2 [0,1,9,11,2,8,7,12,6,5,3,4,13,14] a a a ⟨(⟨N.x,N.bS,N.aY,N.bb,(g.iB h N.d),sn21,q12,(List.replicate 16 none),[],ws17,[],ab.nil⟩:g.aO),_,_,evs1++[(⟨11,N.x,h.al,(g.iB h N.d).aP,0,(g.iB h N.d).aa,0⟩:aK)],([]:List bk),0,⟨⟨(aW.d.auj bf),hsn22,hq13,g.gp.zero hr18,(by rw [ht14,g.Ja];simp),aW.nH,aW.hn,aW.fG,aW.i',(by show ((sn21.b7.length:Nat):Int)=_;rw [hz23];exact aW.gQ),ab.oY.nil⟩,⟨by have au:=ca.t;dsimp only;omega,by have au:=ca.i;dsimp only;omega,by show 0≤_;omega,by omega⟩,⟨a,a,⟨a,a,a,a⟩,ht14,a,hm24,a,a,a,a,pV,qs,hsr3,(by rw [hes,g.Pd (f:=(pV++g.c5 N.af)) (d:=b) E])⟩⟩,a,a⟩
def JA(h:g.b3)(N:g.aO)(s:Nat)(id aE O am a1 bM:Int)(bf:h.bC)(aW:N.bC h)(ca:N.hb s)(aw:s≤9000):M prog 32 #[h.s,.agg #[id,aE,O,am,a1,bM]] [] (mN h N) (fun m B=>tI h (fun bs a_ aH r=>bs.bC h∧bs.hb (s+1)∧g.sp h N id aE O am a1 bM bs a_ aH r) m B):=by
 refine M.aM func32 a ntmps32 a fun an=>?_
 refine I 4 ?_
 intro b9 cS _
 refine w.n (U.makeFunc [b9,cS] a) a ?_
 refine P (A0 h N 77 [b9,cS] [ai b9 [h.s] 29,ai cS [id,aE,O,am,a1,bM] 41] (fun bs a_ aH r=>bs.bC h∧bs.hb (s+1)∧g.sp h N id aE O am a1 bM bs a_ aH r) call77 (fun u=>aqQ u b9 cS h N s id aE O am a1 bM bf aW ca aw) (fun _ _ _ _ au=>g.sp.rH au.2.2)) ?_
 exact R_
def aqP(h:g.b3)(N:g.aO)(s:Nat)(fN aE O code aa aP aR:Int)(bf:h.bC)(aW:N.bC h)(ca:N.hb s)(aw:s≤9000):M prog 35 #[h.s,.agg #[fN,aE,O,code,aa,aP,aR]] [ai 1 (g.te.map vO) 348] (mN h N) (fun m B=>tI h (fun bs a_ aH r=>bs.bC h∧bs.hb (s+1)∧g.wk h N fN aE O code aa aP aR bs a_ aH r) m B):=by
 refine M.aM func35 a ntmps35 a fun an=>?_
 refine I 4 ?_
 intro b9 cS _
 refine w.n (U.makeFunc [cS,b9] a) a ?_
 refine P (A0 h N 90 [cS,b9] [ai cS [fN,aE,O,code,aa,aP,aR] 43,ai b9 [h.s] 29,ai 1 (g.te.map vO) 348] (fun bs a_ aH r=>bs.bC h∧bs.hb (s+1)∧g.wk h N fN aE O code aa aP aR bs a_ aH r) call90 (fun u=>aqO u b9 cS h N s fN aE O code aa aP aR bf aW ca aw) (fun _ _ _ _ au=>g.wk.rH au.2.2)) ?_
 exact R_
def aqM(h:g.b3)(N:g.aO)(s:Nat)(O bS cb bJ bR b4 bY b_ cy:Int)(bf:h.bC)(aW:N.bC h)(ca:N.hb s)(aw:s≤9000):M prog 36 #[h.s,.agg #[O,bS,cb,bJ,bR,b4,bY,b_,cy]] [ai 0 (g.nl.map tj) 282] (mN h N) (fun m B=>tI h (fun bs a_ aH r=>bs.bC h∧bs.hb (s+1)∧g.wh h N O bS [cb,bJ,bR,b4,bY,b_,cy] bs a_ aH r) m B):=by
 refine M.aM func36 a ntmps36 a fun an=>?_
 refine I 4 ?_
 intro b9 cS _
 refine w.n (U.makeFunc [cS,b9] a) a ?_
 refine P (A0 h N 97 [cS,b9] [ai cS [O,bS,cb,bJ,bR,b4,bY,b_,cy] 47,ai b9 [h.s] 29,ai 0 (g.nl.map tj) 282] (fun bs a_ aH r=>bs.bC h∧bs.hb (s+1)∧g.wh h N O bS [cb,bJ,bR,b4,bY,b_,cy] bs a_ aH r) call97 (fun u=>aqL u b9 cS h N s O bS cb bJ bR b4 bY b_ cy bf aW ca aw) (fun _ _ _ _ au=>g.wh.rH au.2.2)) ?_
 exact R_
def aqV(h:g.b3)(N:g.aO)(s:Nat)(bf:h.bC)(aW:N.bC h)(ca:N.hb s)(aw:s≤9000):M prog 37 #[h.s] [] (mN h N) (fun m B=>tI h (fun bs a_ aH r=>bs.bC h∧bs.hb (s+1)∧g.wn h N bs a_ aH r) m B):=by
 refine M.aM func37 a ntmps37 a fun an=>?_
 refine I 3 ?_
 intro b9 _
 refine w.n (U.makeFunc [b9] a) a ?_
 refine P (A0 h N 101 [b9] [ai b9 [h.s] 29] (fun bs a_ aH r=>bs.bC h∧bs.hb (s+1)∧g.wn h N bs a_ aH r) call101 (fun u=>aqU u b9 h N s bf aW ca aw) (fun _ _ _ _ au=>g.wn.rH au.2.2)) ?_
 exact adz
def aqR(h:g.b3)(N:g.aO)(s:Nat)(bf:h.bC)(aW:N.bC h)(ca:N.hb s)(aw:s≤9000):M prog 38 #[h.s] [] (mN h N) (fun m B=>tI h (fun bs a_ aH r=>bs.bC h∧bs.hb (s+1)∧g.wm h N bs a_ aH r) m B):=by
 refine M.aM func38 a ntmps38 a fun an=>?_
 refine I 3 ?_
 intro b9 _
 refine w.n (U.makeFunc [b9] a) a ?_
 refine P (A0 h N 107 [b9] [ai b9 [h.s] 29] (fun bs a_ aH r=>bs.bC h∧bs.hb (s+1)∧g.wm h N bs a_ aH r) call107 (fun u=>aqS u b9 h N s bf aW ca aw) (fun _ _ _ _ au=>g.wm.rH au.2.2)) ?_
 exact adz
def aq6(h:g.b3)(N:g.aO)(s:Nat)(id:Int)(bf:h.bC)(aW:N.bC h)(ca:N.hb s)(aw:s≤9000):M prog 87 #[h.s,id,.func (.func 89) #[h.s] #[]] [] (mN h N) (fun m B=>tI h (fun bs a_ aH r=>bs.bC h∧bs.hb (s+1)∧g.uR h N id bs a_ aH r) m B):=by
 refine M.aM func87 a ntmps87 a fun an=>?_
 refine I 5 ?_
 intro b9 cS dE _
 refine w.n (U.makeFunc [b9,cS,dE] a) a ?_
 refine P (A0 h N 189 [b9,cS,dE] [ai b9 [h.s] 29,ai cS [id] 3,ai dE [.func (.func 89) #[h.s] #[]] 148] (fun bs a_ aH r=>bs.bC h∧bs.hb (s+1)∧g.uR h N id bs a_ aH r) call189 (fun u=>aqX u b9 cS dE h N s id bf aW ca aw) (fun _ _ _ _ au=>g.uR.rH au.2.2)) ?_
 exact ady
def aq7(h:g.b3)(N:g.aO)(s:Nat)(id:Int)(bf:h.bC)(aW:N.bC h)(ca:N.hb s)(aw:s≤9000):M prog 87 #[h.s,id,.func (.func 88) #[h.s] #[]] [] (mN h N) (fun m B=>tI h (fun bs a_ aH r=>bs.bC h∧bs.hb (s+1)∧g.tA h N id bs a_ aH r) m B):=by
 refine M.aM func87 a ntmps87 a fun an=>?_
 refine I 5 ?_
 intro b9 cS dE _
 refine w.n (U.makeFunc [b9,cS,dE] a) a ?_
 refine P (A0 h N 189 [b9,cS,dE] [ai b9 [h.s] 29,ai cS [id] 3,ai dE [.func (.func 88) #[h.s] #[]] 148] (fun bs a_ aH r=>bs.bC h∧bs.hb (s+1)∧g.tA h N id bs a_ aH r) call189 (fun u=>aqY u b9 cS dE h N s id bf aW ca aw) (fun _ _ _ _ au=>g.tA.rH au.2.2)) ?_
 exact ady
def aqF(h:g.b3)(N:g.aO)(s:Nat)(id:Int)(bf:h.bC)(aW:N.bC h)(ca:N.hb s)(aw:s≤9000):M prog 34 #[h.s,id] [] (mN h N) (fun m B=>tI h (fun bs a_ aH r=>bs.bC h∧bs.hb (s+1)∧g.uR h N id bs a_ aH r) m B):=by
 refine M.aM func34 a ntmps34 a fun an=>?_
 refine I 1 ?_
 intros
 refine w.n (U.Pc [h.s] [] a a) a ?_
 refine P aq6 ?_
 exact adA
def Xy(h:g.b3)(N:g.aO)(s:Nat)(id:Int)(bf:h.bC)(aW:N.bC h)(ca:N.hb s)(aw:s≤9000):M prog 33 #[h.s,id] [] (mN h N) (fun m B=>tI h (fun bs a_ aH r=>bs.bC h∧bs.hb (s+1)∧g.tA h N id bs a_ aH r) m B):=by
 refine M.aM func33 a ntmps33 a fun an=>?_
 refine I 1 ?_
 intros
 refine w.n (U.Pc [h.s] [] a a) a ?_
 refine P aq7 ?_
 exact adA
def aoV(h:g.b3)(N:g.aO)(s:Nat)(l:ou)(bf:h.bC)(aW:N.bC h)(ca:N.hb s)(aw:s≤9000):M prog 12 #[h.s,.agg #[l.iz,l.id,l.s_,l.s9,l.dg,l.s',l.s8,l.mx,l.td,l.tb,l.uD,l.og,l.tc,l.hv,l.uB,l.qA,l.uw,l.rb,l.eC,l.fp,l.e_,l.jP,l.iV,l.iW]] [ai 1 (g.te.map vO) 348,ai 0 (g.nl.map tj) 282] (mN h N) (fun m B=>tI h (fun bs a_ aH r=>bs.bC h∧bs.hb (s+1)∧g.L7 h N l bs a_ aH r) m B):=by
 refine M.aM func12 a ntmps12 a fun an=>?_
 refine aU ?_ ?_
 refine P JA ?_
 intro _ _ e_
 rintro _ _ ⟨u4,Mc,F6,es7,fs8,gU,hR10,rfl,rfl⟩
 refine I 0 ?_
 refine w.one (ax.row 0 a) (fun t_=>?_)
 refine w.one (ax.row 1 a) (fun vb=>?_)
 refine aF ?_
 exact aO ⟨u4,_,_,es7,fs8,gU,⟨hR10.1,hR10.2.1,.inl ⟨dp (c9 e_),hR10.2.2⟩⟩,a,a⟩
 refine aU ?_ ?_
 refine P Xy ?_
 intro _ _ _ s5
 rintro _ _ ⟨afZ,L8,F17,es18,fs19,e20,hR21,rfl,rfl⟩
 refine I 0 ?_
 refine w.one (ax.row 0 a) (fun Vt=>?_)
 refine w.one (ax.row 1 a) (fun azI=>?_)
 refine aF ?_
 exact aO ⟨afZ,_,_,es18,fs19,e20,⟨hR21.1,hR21.2.1,.inr (.inl ⟨dp (c9 s5),hR21.2.2⟩)⟩,a,a⟩
 refine aU ?_ ?_
 refine P aqF ?_
 intro _ _ _ _ arE
 rintro _ _ ⟨af2,aea,F28,es29,fs30,EI,hR32,rfl,rfl⟩
 refine I 0 ?_
 refine w.one (ax.row 0 a) (fun azR=>?_)
 refine w.one (ax.row 1 a) (fun azS=>?_)
 refine aF ?_
 exact aO ⟨af2,_,_,es29,fs30,EI,⟨hR32.1,hR32.2.1,.inr (.inr (.inl ⟨dp (c9 arE),hR32.2.2⟩))⟩,a,a⟩
 refine aU ?_ ?_
 refine P aqP ?_
 intro _ _ _ _ _ JN
 rintro _ _ ⟨af4,E38,F39,es40,fs41,e42,hR43,rfl,rfl⟩
 refine I 0 ?_
 refine w.one (ax.row 0 a) (fun azV=>?_)
 refine w.one (ax.row 1 a) (fun Vv=>?_)
 refine aF ?_
 exact aO ⟨af4,_,_,es40,fs41,e42,⟨hR43.1,hR43.2.1,.inr (.inr (.inr (.inl ⟨dp (c9 JN),hR43.2.2⟩)))⟩,a,a⟩
 refine aU ?_ ?_
 refine aD 1 ?_
 intro _ _ e_ _ _ _ arJ
 refine P aqM ?_
 rintro _ _ ⟨af6,E49,F50,es51,fs52,e53,hR54,rfl,rfl⟩
 refine I 0 ?_
 refine w.one (ax.row 0 a) (fun aj6=>?_)
 refine w.one (ax.row 1 a) (fun az0=>?_)
 refine aF ?_
 exact aO ⟨af6,_,_,es51,fs52,e53,⟨hR54.1,hR54.2.1,.inr (.inr (.inr (.inr (.inl ⟨dp (c9 arJ),hR54.2.2⟩))))⟩,a,a⟩
 refine aU ?_ ?_
 refine P aqV ?_
 intro _ _ _ _ _ _ _ XT
 rintro _ _ ⟨af8,D5,F61,es62,fs63,sD,hR65,rfl,rfl⟩
 refine I 0 ?_
 refine w.one (ax.row 0 a) (fun az5=>?_)
 refine w.one (ax.row 1 a) (fun az6=>?_)
 refine aF ?_
 exact aO ⟨af8,_,_,es62,fs63,sD,⟨hR65.1,hR65.2.1,.inr (.inr (.inr (.inr (.inr (.inl ⟨dp (c9 XT),hR65.2.2⟩)))))⟩,a,a⟩
 refine aU ?_ ?_
 refine P aqR ?_
 intro _ _ _ _ _ _ _ _ arM
 rintro _ _ ⟨af9,E71,F72,es73,fs74,e75,hR76,rfl,rfl⟩
 refine I 0 ?_
 refine w.one (ax.row 0 a) (fun aj9=>?_)
 refine w.one (ax.row 1 a) (fun az8=>?_)
 refine aF ?_
 exact aO ⟨af9,_,_,es73,fs74,e75,⟨hR76.1,hR76.2.1,.inr (.inr (.inr (.inr (.inr (.inr (.inl ⟨dp (c9 arM),hR76.2.2⟩))))))⟩,a,a⟩
 intros
 refine K.eV 4 a ?_
 refine aD 1 ?_
 refine w.cq (aq.dC 0 o2 a a a a a a a) ?_
 rintro _ _ rfl
 refine w.dw 2 a<|K.fg 51 7 (([]:List aK).map aK.cells) a<|K.fg 62 23 (([]:List bk).map bk.cells) a ?_
 refine aF ?_
 exact aO ⟨N,_,_,[],[],0,⟨aW,ca.up aw,.inr (.inr (.inr (.inr (.inr (.inr (.inr ⟨by omega,rfl,rfl,rfl,rfl⟩))))))⟩,a,a⟩
def awa(n:Nat)(bD:Int)(y:ab.ht)(x:Int):M prog 47 #[n,x] [ai n (ab.iC bD y) 215] [] (fun m B=>B=[row m 175 4 ((g.qR y bD x 8).map cR.cells)]):=by
 refine M.aM func47 a ntmps47 a fun an=>K.fC 10 a<|K.fg 175 4 (([]:List cR).map cR.cells) a ?_
 refine I 0 ?_
 refine de (bo:=Nat×Value×List cR) (fun (b,X,v)=>b≤8∧v=g.qR y bD x b) (fun (b,X,v)=>[(5,X),(9,.b (b:Int))]) (fun (b,X,v)=>[row X 175 4 (v.map cR.cells)]) (fun (b,X,v)=>8-b) ⟨0,Value.slice none 0 0,[]⟩ [0,1,4] ⟨by omega,rfl⟩ ?_
 rintro ⟨b,X,v⟩ ⟨ac,bw⟩
 refine aU ?_ ?_
 refine P Zy ?_
 refine I 2 ?_
 intros
 refine K.cond a (fun aZ=>?_) (fun aZ=>?_)
 refine I 1 ?_
 refine w.f (aq.fs cR.cells [(ab.get y bD (b:Int) x).1] nr hV ns a a a aN a a) a ?_
 rintro lv _ rfl
 refine w.f (aq.gg 2 tG q8 a a a a a (ax.row 0 a) cR.one aaI aaI) a ?_
 rintro pB _ rfl
 refine I 1 ?_
 exact da ⟨b+1,pB,v++([(ab.get y bD (b:Int) x).1])⟩ ⟨by omega,(by rw [bw];exact (g.ags E aZ).symm)⟩
 refine I 1 ?_
 exact da ⟨b+1,X,v⟩ ⟨by omega,(by rw [bw];exact (g.agr E aZ).symm)⟩
 refine I 0 ?_
 intros
 exact K.l2 [0] a a a (by rw [bw,show b=8 from by omega];rfl)
def aqN(h:g.b3)(N:g.aO)(bf:h.bC)(aW:N.bC h):M prog 13 #[h.s] [ai h.s (g.io h N.x N.bS N.aY N.bb) 90,ll h N.A] [] (fun m B=>B=[row m 66 7 ((g.eL N.A.u).map T.cells)]):=by
 refine M.aM func13 a ntmps13 a fun an=>?_
 refine P AZ ?_
 refine P (Yh h N.A bf aW.A) ?_
 rintro ZP _ ⟨mO,ho3,hsr4,rfl⟩
 have q6:=ho3.length_eq
 refine I 0 ?_
 exact K.l2 [0] a a a (by rw [g.Bd ho3 hsr4 (g.C9 aW.e8)];rfl)
def aqT(h:g.b3)(N:g.aO)(bf:h.bC)(aW:N.bC h):M prog 22 #[h.s] [ai h.s (g.io h N.x N.bS N.aY N.bb) 90,fW h N.bz] [] (fun m B=>B=[row m 3 1 (N.bz.C.map bH)]):=by
 refine M.aM func22 a ntmps22 a fun an=>?_
 refine P AZ ?_
 refine I 1 ?_
 refine w.f (aq.fl call48 (avB h N.bz aW.bz) [] a a (.b0 1 a .nil)) a ?_
 rintro iK _ ⟨_,rfl,rfl⟩
 exact cH
def aqH(h:g.b3)(N:g.aO)(bf:h.bC)(aW:N.bC h):M prog 21 #[h.s] [ai h.s (g.io h N.x N.bS N.aY N.bb) 90,ai h.k2 (ab.iC h.bD N.y) 215] [] (fun m B=>B=[row m 175 4 ((g.qR N.y h.bD N.x 8).map cR.cells)]):=by
 refine M.aM func21 a ntmps21 a fun an=>?_
 refine P AZ ?_
 refine I 0 ?_
 refine K.fD 8 Tryz.bE aN<|aj.Z 3 a<|aj.A (aV.gb 0 isAgg88 a a a) a<|aj.Z 3 a<|aj.A (aV.gb 0 ds a a a) a<|aj.Cl ?_
 refine w.f (aq.fl call47 (awa h.k2 h.bD N.y N.x) [] a a (.b0 1 a .nil)) a ?_
 rintro iK _ ⟨_,rfl,rfl⟩
 exact cH
def Xz(h:g.b3)(N:g.aO)(bf:h.bC)(aW:N.bC h):M prog 14 #[h.s] [ai h.s (g.io h N.x N.bS N.aY N.bb) 90,gQ h N.af,cw h.hC g.li N.cX,c1 (g.h4 3 N.cX)] [] (fun m B=>∃ f:List a7,f.map a7.cL=(g.fJ h.b1 N.af N.cX).filter (fun Z=>decide (Z.bg≠0))∧B=[row m 68 9 (f.map a7.cells),c1 (f.map (a7.row 3))]):=by
 have:=bf.z
 have:=g.sY aW.b.av
 refine M.aM func14 a ntmps14 a fun an=>?_
 refine P AZ ?_
 refine w.dw 10 a<|K.fg 68 9 (([]:List a7).map a7.cells) a<|K.hv a'.new ?_
 refine I 1 ?_
 refine w.f (aq.fl call41 (Qo h N.af bf aW.b.S aW.b.av) [] a a (.b0 1 a .nil)) a ?_
 rintro iK _ ⟨_,rfl,rfl⟩
 refine aD 1 ?_
 refine de (bo:=Nat×Value×List a7) (fun (b,aJ,f)=>b≤(g.c5 N.af).length∧f.map a7.cL=((g.c5 N.af).take b).map (g.CZ N.cX)) (fun (b,aJ,f)=>[(3,aJ),(16,.b (b:Int))]) (fun (b,aJ,f)=>[row aJ 68 9 (f.map a7.cells),c1 (f.map (a7.row 3))]) (fun (b,aJ,f)=>(g.c5 N.af).length-b) ⟨0,Value.slice none 0 0,[]⟩ [0,2,14,15] ⟨by omega,rfl⟩ ?_
 rintro ⟨b,aJ,f⟩ ⟨ac,ci⟩
 refine aU ?_ ?_
 refine I 0 ?_
 intros
 obtain ⟨cQ,h3⟩:=c4 (f:=g.c5 N.af) (b:=b) E
 refine aD 4 ?_
 intros
 obtain ⟨k,ag,rU⟩:=aW.b.k.gu cQ (eF h3)
 refine K.sB 8 7 6 [.b 0,.b 0,.b 0,.b 0,.b 0,.b 0,.b 0,.b 0,Value.slice none 0 0] Tryz.bE aN a a (by exact j2) a ?_
 refine aD 2 ?_
 refine e0.A (aV.mr (X:=.agg #[cQ.id,cQ.am,cQ.cg,cQ.ck,cQ.eN,cQ.dm,cQ.seq,k.bg,k.m]) jZ e2 j2 a a (hS.b0 2 h.hC a a) Lz) a ?_
 refine aD 0 ?_
 intro sF
 refine w.cq (aq.dC 0 j3 a a a a a LP a) ?_
 rintro _ _ rfl
 refine w.dw 2 a<|K.ahh 3 a (g.Pr ag) ?_
 refine I 0 ?_
 refine w.f (aq.tQ bH gz dt) a ?_
 rintro zI _ rfl
 refine I 1 ?_
 refine w.f (aq.gg 0 qN nE a a a a a (ax.b0 4 a) bH.one LA LA) a ?_
 rintro j1 _ rfl
 refine I 0 ?_
 refine w.one (ax.row 0 a) (fun Cy=>?_)
 refine w.cq (aq.gy 1 tO Cy a a a a) ?_
 rintro _ _ rfl
 refine w.nil ?_
 refine K.one (ax.row 0 a) (fun va=>?_)
 refine K.hv (a'.trans (a'.bz [0,4,1,2,3,5] a) (a'.lx (a7.Pn (e:=(⟨cQ,k.bg,j1,([]:List Int)++k.cr,va⟩:a7))))) ?_
 refine I 1 ?_
 refine w.f (aq.fs a7.cells [(⟨cQ,k.bg,j1,([]:List Int)++k.cr,va⟩:a7)] ws j3 j2 a a a (by cases j1<;>first|(simp [Value.oneCell'] at va;done)|kernel_rfl) a a) a ?_
 rintro qg _ rfl
 refine w.f (aq.gg 4 underlying57 wY a a a a a (ax.row 0 a) a7.one LA LA) a ?_
 rintro mX _ rfl
 refine I 0 ?_
 refine w.n (U.hJ a a (by first|omega|(have fe:=g.sY aW.b.av;have h4_:=bf.gk;omega))) a ?_
 refine I 0 ?_
 exact da ⟨b+1,mX,f++([(⟨cQ,k.bg,j1,([]:List Int)++k.cr,va⟩:a7)])⟩ ⟨by omega,(by rw [gR,ci,hx,h3];simp [g.OU ag,a7.cL])⟩
 refine aF ?_
 intros
 exact aO ⟨_,(by rw [ci,ir E,g.OS aW.b]),a⟩
end Go.Proofs.YtohjlkjhpibkmaaGreatDoor
namespace Go.LK.g
open Go Go.LK
structure Mm (p i:Int) (f:List cj) (r:cj):Prop where
  EB:1≤dd.jc p i
  EC:dd.jc p i≤128
  an:1≤r.bK
  ih:r.bK≤16
  Gb:1≤r.bV
  ep:r.bV≤64
  anj:1≤r.b8
  ank:r.b8≤64
  Bh:0≤r.bG
  dR:r.bG≤7
  gq:0≤r.ch
  jQ:r.ch≤256
  cq:0≤r.b'
  aoU:r.b'≤1099511627776
  cW:r.cW.length≤6
  Xq:f.length≤8
  h_:h7.e7 [r.cf,r.er,r.es,r.d',r.eO,r.eP,r.eQ] (dd.jc p i)=0
structure SM (h:b3) (p i Z:Int) (h_:Nat) (r:cj):Prop where
  bM:h.bM=p
  cW:h.cW=i
  b0:h.b0=Z
  key:h.key=h_
  sE:h.sE=r.cf
  me:h.me=r.er
  f2:h.f2=r.es
  f3:h.f3=r.d'
  f4:h.f4=r.eO
  f5:h.f5=r.eP
  f6:h.f6=r.eQ
def O2{s t:Int}(bB:0≤s)(G:s≤t):dd.cc s t=s:=by unfold dd.cc;(repeat' split)<;>omega
def apI{p i:Int}(c:dd.pi p i=true):dd.jc p i=p*i:=by
  have G:=dd.yK c
  obtain ⟨J,aA,aZ,bT⟩:=dd.JE.1 c
  unfold dd.jc
  rw [O2 (s:=p) E E,O2 (s:=i) E E]
  have bU:IntKind.i64.wrap (p*i)=p*i:=AN E
  rw [bU,O2 E E]
def Xt{p i Z al:Int}{f:List cj}{r:cj}(c:dd.nv p i Z f=0)(bB:0≤al)(G:al < (f.length:Int))(aC:f[al.toNat]?=some r):Mm p i f r:=by
  unfold dd.nv at c
  split at c
  · rename_i d_
    simp only [h6,decide_eq_true_eq] at d_
    obtain ⟨⟨⟨dv,_⟩,_⟩,bf⟩:=d_
    have aS:aQ.e7 r.of r.cW al (f.length:Int) (p*i)=0:=by
      unfold dd.rE at bf
      rw [rj] at bf
      have J:=bf al.toNat (kd.2 E)
      rw [aC] at J
      simp only [decide_eq_true_eq] at J
      rwa [show ((al.toNat:Nat):Int)=al from by omega] at J
    have bh:=dd.TW aS
    unfold aQ.e7 at aS
    split at aS
    · rename_i a6
      simp only [h6] at a6
      obtain ⟨⟨_,cs⟩,R⟩:=a6
      have akf:=apI dv
      have av:=dd.yK dv
      simp only [aQ.Kc,cj.of,h6] at cs
      obtain ⟨⟨⟨⟨⟨uz,l2⟩,r9⟩,pn⟩,uA⟩,yY⟩:=cs
      have uz:=aQ.yc uz;have l2:=aQ.yc l2;have r9:=aQ.yc r9;have pn:=aQ.yc pn;have uA:=aQ.yc uA;have yY:=aQ.yc yY
      unfold aQ.nu at R
      simp only [h6,decide_eq_true_eq] at R
      refine ⟨by omega,by omega,uz.1,uz.2,l2.1,l2.2,r9.1,r9.2,pn.1,pn.2,uA.1,uA.2,yY.1,yY.2,R.1,by omega,?_⟩
      rw [akf];simpa [cj.of] using aS
    · cases aS
  · cases c
noncomputable def yM (p i Z:Int) (f:List cj) (al:Int):Bool:=decide (dd.nv p i Z f=0)&&decide (0≤al)&&decide (al < (f.length:Int))
def Jt{p i Z:Int}{f:List cj}{al:Int}:yM p i Z f al=true↔dd.nv p i Z f=0∧0≤al∧al < (f.length:Int):=by
  unfold yM;simp [and_assoc]
end Go.LK.g
namespace Go.Proofs.YtohjlkjhpibkmaaGreatDoor
open Go Go.LK Go.Proofs.Tryz
set_option maxRecDepth 100000
set_option maxHeartbeats 4000000
def aqE(h:g.b3)(d:g.dM)(H:g.sq)(dc:hA):List aB:=ai h.s (g.io h 0 0 0 0) 90 :: (M1 h d++(J3 h ⟨.slice none 0 0,[],[]⟩++((ai h.H ([Value.b h.b1]++(List.replicate 16 none:g.fh).map g.jR) 210) :: (P' h H++[cw h.hC g.li [],hF 195 h.j dc,ai h.k2 (ab.iC h.bD ab.nil) 215,row h.dA 136 4 (h.bb.map cG.cells),row h.ej 56 14 (h.k1.map cj.cells)]))))
def aqJ(p i Z:Int)(h_:Nat)(ej:Value)(f:List cj)(al:Int)(sU:Value.oneCell' ej=true)(S:f.length≤1000)(aS:∀ H∈f,H.cW.length≤1000)(wP:dd.nv p i Z f=0)(bB:0≤al)(G:al < (f.length:Int)):M prog 23 #[.agg #[p,i,Z,.int .u64 (Nat.cast h_:Int),ej],al] [bF ej 14 (f.map cj.cells),hZ (f.map cj.bF)] [] (fun m B=>∃ (h:g.b3) (H:g.sq) (dc:hA) (r:cj),f[al.toNat]?=some r∧g.Mm p i f r∧bj.hI [] dc∧(H.b7.length:Int)=r.ch∧H.z=0∧H.s=0∧H.t=[]∧Value.oneCell' h.ej=true∧Value.oneCell' h.dA=true∧(h.k1=f∧h.al=al∧h.ap=dd.jc p i∧h.b1=r.bK∧h.hD=r.bV∧h.qD=r.b8∧h.bm=r.bG∧h.fW=r.ch∧h.bD=r.b'∧h.bb=r.cW∧h.bM=p∧h.cW=i∧h.b0=Z∧h.key=h_∧h.sE=r.cf∧h.me=r.er∧h.f2=r.es∧h.f3=r.d'∧h.f4=r.eO∧h.f5=r.eP∧h.f6=r.eQ)∧m=.tuple #[h.s,.b 0]∧B=aqE h (g.w8 h.ap h.bm r.cf r.er r.es r.d' r.eO r.eP r.eQ) H dc):=by
 obtain ⟨r,aC⟩:∃ r,f[al.toNat]?=some r:=⟨_,et E⟩
 have bc:=g.Xt wP bB G aC
 refine M.aM func23 a ntmps23 a fun an=>?_
 refine P Zl ?_
 refine I 0 ?_
 intros
 refine K.fZ a (p4 (fun au=>au wP)) ?_
 refine I 0 ?_
 refine w.kK 15 a (p4 E) ?_
 refine I 1 ?_
 refine w.el (aV.jN st a (ax.b0 0 a)) a a ?_
 refine I 0 ?_
 refine K.fZ a (p4 E) ?_
 refine I 0 ?_
 refine K.kD Tryz.bE ?_
 refine ar.gV 7 8 a ?_ ?_
 refine ar.fH (df [(0,7),(8,0),(7,0),(9,1),(10,0),(11,1)]) [0] aN a ?_
 refine P aaa ?_
 rintro _ _ ⟨dE,ws4,rfl,rfl,hr5⟩
 refine aD 1 ?_
 refine aL.f a (aq.AX g.li) a ?_
 rintro _ _ ⟨H1,rfl,rfl⟩
 refine aD 4 ?_
 intro Io
 refine w.f (aq.tQ cj.cells st tN) a ?_
 rintro k' _ rfl
 refine aD 2 ?_
 intro pz
 refine w.one (ax.row 0 a) (fun Aa=>?_)
 refine w.cq (aq.gy 1 sizeOf23 Aa a a a a) ?_
 rintro _ _ rfl
 refine w.dw 2 a<|K.hZ 1 a (ar:=bF r.dA 4 (r.cW.map cG.cells)) (bx.2 ⟨r,eF aC,a⟩) ?_
 refine I 0 ?_
 refine w.f (aq.tQ cG.cells xV zL) a ?_
 rintro mX _ rfl
 refine I 1 ?_
 refine w.f (aq.gg 0 underlying54 CV a a a a a (ax.b0 2 a) cG.one LM LM) a ?_
 rintro hc _ rfl
 refine I 0 ?_
 refine w.one (ax.row 0 a) (fun Vq=>?_)
 refine w.cq (aq.gy 2 sizeOf54 Vq a a a a) ?_
 rintro _ _ rfl
 refine I 0 ?_
 refine K.ef (df [(0,13),(13,0),(14,5),(19,0)]) [2,5] Tryz.bE aN a ?_
 refine P Qp ?_
 refine P (T7 (dd.jc p i) r.bG r.cf r.er r.es r.d' r.eO r.eP r.eQ bc.EB bc.EC bc.Bh bc.dR bc.h_) ?_
 rintro _ _ ⟨UP,No,Np,Im,UQ,rfl,rfl⟩
 refine P (Zd r.ch bc.gq bc.jQ) ?_
 rintro _ _ ⟨In,Tx,R23,ring24,rfl,hring25,rfl⟩
 refine P (Ye r.bV bc.Gb bc.ep) ?_
 rintro _ _ ⟨ajq,g28,Ty,rfl,rfl⟩
 refine P (Zo r.bK bc.an bc.ih) ?_
 refine P (Zz r.b' aa9) ?_
 intro ajr ajs
 refine w.e1 5 a ?_
 refine w.cq (aq.dC 16 sizeOf88 a a a a a a a) ?_
 rintro _ _ rfl
 refine w.dw 7 a ?_
 refine K.one (ax.row 15 a) (fun EZ=>?_)
 refine K.one (ax.row 14 a) (fun EV=>?_)
 refine aF ?_
 exact aO ⟨⟨Io,UP,No,Np,Im,UQ,In,Tx,ajq,g28,Ty,ajr,H1,dE,ajs,p,i,Z,h_,pz,f,al,r.bK,r.bV,r.b8,r.bG,r.ch,r.b',r.cf,r.er,r.es,r.d',r.eO,r.eP,r.eQ,hc,r.cW,dd.jc p i⟩,⟨R23,0,0,ring24,[]⟩,ws4,r,aC,bc,hr5,hring25,a,a,a,EZ,EV,⟨a,a,a,a,a,a,a,a,a,a,a,a,a,a,a,a,a,a,a,a,a⟩,a,a⟩
 refine ar.fH (df [(0,7),(7,0),(8,0),(9,1),(10,0),(11,1)]) [0] aN a ?_
 refine aD 4 ?_
 refine aL.f a (aq.AX g.li) a ?_
 rintro _ _ ⟨agW,rfl,rfl⟩
 refine P aaa ?_
 rintro _ _ ⟨aju,ws37,rfl,rfl,hr38⟩
 refine aD 4 ?_
 intro ajv
 refine w.f (aq.tQ cj.cells st tN) a ?_
 rintro BY _ rfl
 refine aD 2 ?_
 intro aex
 refine w.one (ax.row 0 a) (fun NT=>?_)
 refine w.cq (aq.gy 1 sizeOf23 NT a a a a) ?_
 rintro _ _ rfl
 refine w.dw 2 a<|K.hZ 1 a (ar:=bF r.dA 4 (r.cW.map cG.cells)) (bx.2 ⟨r,eF aC,a⟩) ?_
 refine I 0 ?_
 refine w.f (aq.tQ cG.cells xV zL) a ?_
 rintro axX _ rfl
 refine I 1 ?_
 refine w.f (aq.gg 0 underlying54 CV a a a a a (ax.b0 2 a) cG.one LM LM) a ?_
 rintro S8 _ rfl
 refine I 0 ?_
 refine w.one (ax.row 0 a) (fun Vv=>?_)
 refine w.cq (aq.gy 2 sizeOf54 Vv a a a a) ?_
 rintro _ _ rfl
 refine I 0 ?_
 refine K.ef (df [(0,13),(13,0),(14,5),(19,0)]) [2,5] Tryz.bE aN a ?_
 refine P Qp ?_
 refine P (T7 (dd.jc p i) r.bG r.cf r.er r.es r.d' r.eO r.eP r.eQ bc.EB bc.EC bc.Bh bc.dR bc.h_) ?_
 rintro _ _ ⟨ajw,g48,g49,g50,g51,rfl,rfl⟩
 refine P (Zd r.ch bc.gq bc.jQ) ?_
 rintro _ _ ⟨ajx,b54,R55,ring56,rfl,hring57,rfl⟩
 refine P (Ye r.bV bc.Gb bc.ep) ?_
 rintro _ _ ⟨UR,g60,b61,rfl,rfl⟩
 refine P (Zo r.bK bc.an bc.ih) ?_
 refine P (Zz r.b' aa9) ?_
 intro US UT
 refine w.e1 5 a ?_
 refine w.cq (aq.dC 16 sizeOf88 a a a a a a a) ?_
 rintro _ _ rfl
 refine w.dw 7 a ?_
 refine K.one (ax.row 15 a) (fun EZ=>?_)
 refine K.one (ax.row 14 a) (fun EV=>?_)
 refine aF ?_
 exact aO ⟨⟨ajv,ajw,g48,g49,g50,g51,ajx,b54,UR,g60,b61,US,agW,aju,UT,p,i,Z,h_,aex,f,al,r.bK,r.bV,r.b8,r.bG,r.ch,r.b',r.cf,r.er,r.es,r.d',r.eO,r.eP,r.eQ,S8,r.cW,dd.jc p i⟩,⟨R55,0,0,ring56,[]⟩,ws37,r,aC,bc,hr38,hring57,a,a,a,EZ,EV,⟨a,a,a,a,a,a,a,a,a,a,a,a,a,a,a,a,a,a,a,a,a⟩,a,a⟩
def XA(p i Z:Int)(h_:Nat)(ej:Value)(f:List cj)(al:Int)(sU:Value.oneCell' ej=true)(S:f.length≤1000)(aS:∀ H∈f,H.cW.length≤1000)(ko:g.yM p i Z f al=true):M prog 23 #[.agg #[p,i,Z,.int .u64 (Nat.cast h_:Int),ej],al] [bF ej 14 (f.map cj.cells),hZ (f.map cj.bF)] [] (fun m B=>∃ h N r,f[al.toNat]?=some r∧h.bC∧N.bC h∧g.BJ h N p i al r∧(h.k1=f∧g.SM h p i Z h_ r)∧m=.tuple #[.n h.s,.b 0]∧B=mN h N):=by
 obtain ⟨wP,bB,G⟩:=g.Jt.1 ko
 refine (aqJ p i Z h_ ej f al sU S aS wP bB G).conv (a'.refl _) ?_
 rintro m B ⟨h,H,dc,r,aC,bc,cs,Wl,hsf,qt,hsm,EZ,EV,⟨me,f2,f3,f4,f5,f6,f7,f8,f9,f10,f11,f12,f13,f14,Nn,b9,cS,dE,mG,qm,sF⟩,rfl,rfl⟩
 have bf:h.bC:=⟨by rw [f3];exact bc.EB,by rw [f3];exact bc.EC,by rw [f7];exact bc.Bh,by rw [f7];exact bc.dR,by rw [f4];exact bc.an,by rw [f4];exact bc.ih,by rw [f5];exact bc.Gb,by rw [f5];exact bc.ep,by rw [f6];exact bc.anj,by rw [f6];exact bc.ank,by rw [f8];exact bc.gq,by rw [f8];exact bc.jQ,by rw [f2];exact bB,by rw [f2,me];exact G,by rw [me];exact bc.Xq,by rw [f10];exact bc.cW,EZ,EV,by rw [f3,f11,f12]⟩
 have aka:((⟨0,0,0,0,(g.w8 h.ap h.bm r.cf r.er r.es r.d' r.eO r.eP r.eQ),H,⟨.slice none 0 0,[],[]⟩,List.replicate 16 none,[],dc,[],ab.nil⟩:g.aO)).bC h:=⟨⟨Bu,(by have:=bf.gB;show 0≤h.ap;omega),sf _,(show (0:Int)≤1 from by decide),(show (1:Int)≤4294967295 from by decide),(show (-1:Int)≤0 from by decide),(show (0:Int)≤1 from by decide),bf.jl,sf _,(fun _=>rfl),(by show h7.e7 [r.cf,r.er,r.es,r.d',r.eO,r.eP,r.eQ] h.ap=0;rw [f3];exact bc.h_)⟩,⟨(by have:=bc.jQ;show H.b7.length≤256;omega),(by show 0≤H.z;omega),(by have:=bc.gq;show H.z < H.b7.length∨H.b7.length=0∧H.z=0;omega),(by show 0≤H.s;omega),(by show H.s≤H.b7.length;omega),(by rw [hsf,qt,hsm];exact g.nq.new)⟩,⟨g.hG.nil,(by have:=bf.Fw;show ((([]:List T).length:Nat):Int)≤h.hD;simp;omega)⟩,g.gp.zero cs,(by show ((([]:List T)++g.c5 (List.replicate 16 none)).map T.id).Nodup;rw [g.Ja];simp),sf 0,(show (0:Int)≤1099511627776 from by decide),sf 0,sf 0,(by show (H.b7.length:Int)=h.fW;rw [f8];exact Wl),ab.oY.nil⟩
 refine ⟨_,⟨h,(⟨0,0,0,0,(g.w8 h.ap h.bm r.cf r.er r.es r.d' r.eO r.eP r.eQ),H,⟨.slice none 0 0,[],[]⟩,List.replicate 16 none,[],dc,[],ab.nil⟩:g.aO),r,aC,bf,aka,⟨f2,f3,f4,f5,f6,f7,f8,f9,f10,rfl,rfl,rfl,rfl,rfl,rfl,rfl,rfl,rfl,(by show g.iY H.b7 H.z H.s=[];rw [qt];exact g.Gp),hsm,rfl,rfl⟩,⟨me,⟨f11,f12,f13,f14,Nn,b9,cS,dE,mG,qm,sF⟩⟩,rfl,rfl⟩,?_⟩
 refine a'.trans a'.new (a'.trans a'.new (a'.trans (a'.bz [3,4,5,6,7,0,1,2,8,9,10,11,12,13,14,15,16,17,18,19,20] rfl) (a'.trans (a'.EE (eu:=M1 h (g.w8 h.ap h.bm r.cf r.er r.es r.d' r.eO r.eP r.eQ))) ?_)))
 refine a'.trans (a'.bz [4,5,6,7,0,1,2,3,8,9,10,11,12,13,14,15,16] rfl) (a'.trans (a'.EE (eu:=J3 h ⟨.slice none 0 0,[],[]⟩)) ?_)
 refine a'.trans (a'.bz [5,2,0,1,3,4,6,7,8,9,10,11,12,13] rfl) (a'.trans (a'.EE (eu:=Zm h (List.replicate 16 none))) ?_)
 refine a'.trans (a'.bz [5,6,7,0,1,2,3,4,8,9,10,11,12] rfl) (a'.trans (a'.EE (eu:=P' h H)) ?_)
 exact a'.bz [5,3,2,1,6,4,7,0,8,9,10] rfl
def aqI(p i Z:Int)(h_:Nat)(ej:Value)(f:List cj)(al:Int)(sU:Value.oneCell' ej=true)(S:f.length≤1000)(aS:∀ H∈f,H.cW.length≤1000)(ko:g.yM p i Z f al=false):M prog 23 #[.agg #[p,i,Z,.int .u64 (Nat.cast h_:Int),ej],al] [bF ej 14 (f.map cj.cells),hZ (f.map cj.bF)] [] (fun m B=>m=.tuple #[.pointer none,.b (if dd.nv p i Z f=0 then 7 else dd.nv p i Z f)]∧B=[]):=by
 refine M.aM func23 a ntmps23 a fun an=>?_
 refine P Zl ?_
 exact acs
def vH(s dr:Int):M prog 221 #[s,dr] [] [] (fun m B=>m=.b (ab.cc s dr)∧B=[]):=by
 refine M.aM func221 a ntmps221 a fun an=>?_
 refine aU (fun eC=>?_) (fun eC=>?_)
 refine aF ?_
 exact adu
 refine aU ?_ ?_
 exact RZ
 refine aU ?_ ?_
 exact RZ
 exact RZ
def qB(s:Int):M prog 119 #[s] [] [] (fun m B=>m=.b (ab.cc s 2147483647)∧B=[]):=by
 refine M.aM func119 a ntmps119 a fun an=>?_
 refine P vH ?_
 exact cH
def xc(s:Int):M prog 234 #[s] [] [] (fun m B=>m=.b (ab.h1 s)∧B=[]):=by
 refine M.aM func234 a ntmps234 a fun an=>?_
 refine P vH ?_
 exact cH
def uE(l p:Int):M prog 141 #[l,p] [] [] (fun m B=>m=.b (g.fv l p)∧B=[]):=by
 refine M.aM func141 a ntmps141 a fun an=>?_
 refine P qB ?_
 refine P qB ?_
 refine w.n (U.hJ a a aaP) a ?_
 refine P qB ?_
 exact cH
def Y3(l p:Int):M prog 167 #[l,p] [] [] (fun m B=>m=.b (g.later l p)∧B=[]):=by
 refine M.aM func167 a ntmps167 a fun an=>?_
 refine P xc ?_
 refine P xc ?_
 refine w.n (U.hJ a a aa8) a ?_
 refine P xc ?_
 exact cH
def Ke(l p:Int):M prog 145 #[l,p] [] [] (fun m B=>m=.b (ab.left l p)∧B=[]):=by
 refine M.aM func145 a ntmps145 a fun an=>?_
 refine P xc ?_
 refine P xc ?_
 refine w.n (U.lG a a aa8) a ?_
 refine P xc ?_
 exact cH
def auC(l p:Int):M prog 46 #[l,p] [] [] (fun m B=>m=.b (ab.cc (ab.cc l 2147483647*ab.cc p 2147483647) 2147483647)∧B=[]):=by
 refine M.aM func46 a ntmps46 a fun an=>?_
 refine P qB ?_
 refine P qB ?_
 refine w.n (U.us a a (by first|omega|(have Wc:=g.yK (ab.gP l (dr:=2147483647) bd) (ab.gP p (dr:=2147483647) bd);omega))) a ?_
 refine P qB ?_
 exact cH
def auB(H s:Int):M prog 306 #[H,s] [] [] (fun m B=>m=.b (g.gd H s)∧B=[]):=by
 refine M.aM func306 a ntmps306 a fun an=>?_
 refine P qB ?_
 refine aU ?_ ?_
 refine aF ?_
 intros
 exact acY
 refine P qB ?_
 refine P qB ?_
 intros
 refine w.n (U.xa a a RA RA RA) a ?_
 refine aF ?_
 exact acY
def Y4(s n:Int):M prog 309 #[s,n] [] [] (fun m B=>m=.b (g.pX s (ab.cc n 100))∧B=[]):=by
 refine M.aM func309 a ntmps309 a fun an=>?_
 refine P qB ?_
 refine P vH ?_
 refine w.n (U.us a a G8) a ?_
 refine I 0 ?_
 refine w.n (U.xa a a G8 E G8) a ?_
 refine I 0 ?_
 refine w.n (U.us a a G8) a ?_
 refine aU ?_ ?_
 refine I 0 ?_
 intros
 refine w.n (U.hJ a a G8) a ?_
 refine I 0 ?_
 refine aF ?_
 exact acy
 refine aF ?_
 intros
 exact acy
def auK(br:Value)(f:List Int)(S:f.length≤100000):M prog 349 #[br] [bF br 1 (f.map bH)] [] (fun m B=>m=.b (g.h0 f)∧B=[]):=by
 refine M.aM func349 a ntmps349 a fun an=>?_
 refine I 0 ?_
 refine de (bo:=Nat×Int) (fun (d,s)=>d≤f.length∧s=g.h0 (f.take d)) (fun (d,s)=>[(3,.b s),(4,.b (d:Int))]) (fun (d,s)=>[]) (fun (d,s)=>f.length-d) ⟨0,0⟩ [0,2] ⟨by omega,rfl⟩ ?_
 rintro ⟨d,s⟩ ⟨R,aw⟩
 refine aU ?_ ?_
 refine I 0 ?_
 intros
 obtain ⟨bP,dJ⟩:=c4 (f:=f) (b:=d) E
 refine P uE ?_
 exact ab6
 exact ab'
def auq(l p:T):M prog 302 #[l,p] [] [] (fun m B=>m=.bool (g.kz l p)∧B=[]):=by
 refine M.aM func302 a ntmps302 a fun an=>?_
 refine aU ?_ ?_
 exact Sk
 refine aU ?_ ?_
 exact Sk
 exact Sk
def auS(l p:T):M prog 303 #[l,p] [] [] (fun m B=>m=.bool (g.iL l p)∧B=[]):=by
 refine M.aM func303 a ntmps303 a fun an=>?_
 refine aU ?_ ?_
 exact LY
 refine aU ?_ ?_
 exact LY
 refine aU ?_ ?_
 exact LY
 exact LY
def Y1(e:T)(x:Int):M prog 169 #[e,x] [] [] (fun m B=>m=.b (g.ew e x)∧B=[]):=by
 refine M.aM func169 a ntmps169 a fun an=>?_
 refine aU ?_ ?_
 exact ac9
 refine I 0 ?_
 intros
 refine K.hW 7 Tryz.bE aN ?_
 refine P Ke ?_
 exact adj
def auI(s d:Int):M prog 347 #[s,d] [] [] (fun m B=>m=.b (g.part s d)∧B=[]):=by
 have:=g.JR (left:=s) (jr:=d)
 refine M.aM func347 a ntmps347 a fun an=>?_
 refine P xc ?_
 refine P vH ?_
 refine w.n (U.us a a RC) a<|w.n (U.xa a a RC E RC) a ?_
 exact cH
def aux(s d:Int):M prog 348 #[s,d] [] [] (fun m B=>m=.b (g.pe s d)∧B=[]):=by
 have:=ab.Gt s
 refine M.aM func348 a ntmps348 a fun an=>?_
 refine P xc ?_
 refine w.n (U.xa a a Rn E Rn) a ?_
 refine P vH ?_
 refine aU ?_ ?_
 exact abU
 exact abU
def aus(x a1 j dr:Int):M prog 304 #[x,a1,j,dr] [] [] (fun m B=>m=.tuple #[.b (g.oB x a1 j dr).1,.b (g.oB x a1 j dr).2.1,.bool (g.oB x a1 j dr).2.2]∧B=[]):=by
 refine M.aM func304 a ntmps304 a fun an=>?_
 refine P Ke ?_
 refine P auI ?_
 refine P aux ?_
 refine aU ?_ ?_
 exact acf
 refine P Y3 ?_
 exact acf
def auy(t gw ac:Int):M prog 247 #[t,gw,ac] [] [] (fun m B=>m=.b (g.gn t gw ac)∧B=[]):=by
 refine M.aM func247 a ntmps247 a fun an=>?_
 exact ac8
def Y6(id aE O am a1 bM:Int):M prog 146 #[.agg #[id,aE,O,am,a1,bM]] [] [] (fun m B=>m=.b (if g.ra id aE O am a1 bM=true then (0:Int) else 1)∧B=[]):=by
 refine M.aM func146 a ntmps146 a fun an=>?_
 refine aD 2 ?_
 intros
 refine aU (fun fp=>?_) (fun fp=>?_)
 refine aF ?_
 exact rn
 refine aU (fun e_=>?_) (fun e_=>?_)
 refine aF ?_
 exact rn
 refine aU (fun jP=>?_) (fun jP=>?_)
 refine aF ?_
 exact rn
 refine aU (fun iV=>?_) (fun iV=>?_)
 refine aF ?_
 exact rn
 refine aU (fun iW=>?_) (fun iW=>?_)
 refine aF ?_
 exact rn
 refine aU (fun j9=>?_) (fun j9=>?_)
 refine aF ?_
 exact rn
 refine aU ?_ ?_
 refine aF ?_
 intros
 exact rn
 refine aD 1 ?_
 intros
 refine aU (fun s6=>?_) (fun s6=>?_)
 refine aF ?_
 exact rn
 refine aU (fun pj=>?_) (fun pj=>?_)
 refine aF ?_
 exact rn
 refine aU (fun qy=>?_) (fun qy=>?_)
 refine aF ?_
 exact rn
 refine aU (fun s4=>?_) (fun s4=>?_)
 refine aF ?_
 exact rn
 refine aU (fun mQ=>?_) (fun mQ=>?_)
 refine aF ?_
 exact rn
 refine aU ?_ ?_
 refine aF ?_
 intros
 exact rn
 refine aF ?_
 intros
 exact rn
def Y5(id aE O code aa aP aR:Int):M prog 161 #[.agg #[id,aE,O,code,aa,aP,aR]] [] [] (fun m B=>m=.b (if g.mP id aE O code aa aP aR=true then (0:Int) else 1)∧B=[]):=by
 refine M.aM func161 a ntmps161 a fun an=>?_
 refine aD 2 ?_
 intros
 refine aU (fun fp=>?_) (fun fp=>?_)
 refine aF ?_
 exact p_
 refine aU (fun e_=>?_) (fun e_=>?_)
 refine aF ?_
 exact p_
 refine aU (fun jP=>?_) (fun jP=>?_)
 refine aF ?_
 exact p_
 refine aU (fun iV=>?_) (fun iV=>?_)
 refine aF ?_
 exact p_
 refine aU (fun iW=>?_) (fun iW=>?_)
 refine aF ?_
 exact p_
 refine aU (fun j9=>?_) (fun j9=>?_)
 refine aF ?_
 exact p_
 refine aU (fun kM=>?_) (fun kM=>?_)
 refine aF ?_
 exact p_
 refine aU (fun s6=>?_) (fun s6=>?_)
 refine aF ?_
 exact p_
 refine aU ?_ ?_
 refine aF ?_
 intros
 exact p_
 refine aD 1 ?_
 intros
 refine aU (fun qy=>?_) (fun qy=>?_)
 refine aF ?_
 exact p_
 refine aU (fun s4=>?_) (fun s4=>?_)
 refine aF ?_
 exact p_
 refine aU (fun mQ=>?_) (fun mQ=>?_)
 refine aF ?_
 exact p_
 refine aU (fun s5=>?_) (fun s5=>?_)
 refine aF ?_
 exact p_
 refine aU (fun FU=>?_) (fun FU=>?_)
 refine aF ?_
 exact p_
 refine aU ?_ ?_
 refine aF ?_
 intros
 exact p_
 refine aF ?_
 intros
 exact p_
def auM(cA held tk ev:Int)(bB:-1≤cA)(G:cA≤1)(ce:cA=0→held=0)(ao:1≤ev):M prog 249 #[.agg #[cA,held],tk,ev] [] [] (fun m B=>m=.tuple #[.agg #[.b (g.gD cA held tk ev).2.1,.b (g.gD cA held tk ev).2.2],.b (g.gD cA held tk ev).1]∧B=[]):=by
 refine M.aM func249 a ntmps249 a fun an=>?_
 refine aU ?_ ?_
 refine aU ?_ ?_
 refine I 0 ?_
 intros
 refine K.sB 7 6 9 [.b 0,.b 0] Tryz.bE aN a a (by exact B2) a ?_
 refine P uE ?_
 refine aD 1 ?_
 intro qm
 refine aU ?_ ?_
 refine aF ?_
 intros
 exact zq
 refine aD 1 ?_
 intros
 refine aU (fun j9=>?_) (fun j9=>?_)
 refine aF ?_
 exact zq
 refine aU (fun kM=>?_) (fun kM=>?_)
 exact ac6
 refine aF ?_
 exact zq
 refine I 0 ?_
 intros
 refine K.sB 7 6 9 [.b 0,.b 0] Tryz.bE aN a a (by exact B2) a ?_
 refine P uE ?_
 refine aD 1 ?_
 intro Il
 refine aU ?_ ?_
 refine aF ?_
 intros
 exact zq
 refine aD 1 ?_
 intros
 refine aU (fun s4=>?_) (fun s4=>?_)
 refine aF ?_
 exact zq
 refine aU (fun mQ=>?_) (fun mQ=>?_)
 exact ac6
 refine aF ?_
 exact zq
 refine aU ?_ ?_
 refine I 0 ?_
 intros
 refine K.sB 7 6 9 [.b 0,.b 0] Tryz.bE aN a a (by exact B2) a ?_
 refine P uE ?_
 refine aD 1 ?_
 intro No
 refine aU ?_ ?_
 refine aF ?_
 intros
 exact Hf
 refine aD 1 ?_
 intros
 refine aU (fun Db=>?_) (fun Db=>?_)
 refine aF ?_
 exact Hf
 refine aU (fun yR=>?_) (fun yR=>?_)
 refine aU ?_ ?_
 refine aF ?_
 intros
 exact Hf
 refine aF ?_
 intros
 exact Hf
 refine aF ?_
 exact Hf
 refine I 0 ?_
 intros
 refine K.sB 7 6 9 [.b 0,.b 0] Tryz.bE aN a a (by exact B2) a ?_
 refine P uE ?_
 refine aD 1 ?_
 intro In
 refine aU ?_ ?_
 exact adq
 exact adq
def YZ(s:Int):M prog 140 #[s] [] [] (fun m B=>m=.agg #[s,s,.b 32]∧B=[]):=by
 refine M.aM func140 a ntmps140 a fun an=>?_
 exact cH
def Ba(bm aR held tk:Int)(op:Bool)(ev:Int)(bB:0≤aR)(G:aR≤bm)(J:bm≤7):M prog 253 #[.agg #[bm,aR,held],tk,.bool op,ev] [] [] (fun m B=>m=.tuple #[.agg #[bm,.b (g.iv bm aR held tk op ev).2.1,.b (g.iv bm aR held tk op ev).2.2],.bool (g.iv bm aR held tk op ev).1]∧B=[]):=by
 refine M.aM func253 a ntmps253 a fun an=>?_
 refine P uE ?_
 refine aU ?_ ?_
 refine aF ?_
 intros
 exact zr
 refine aD 0 ?_
 intros
 refine aU (fun iV=>?_) (fun iV=>?_)
 refine aU ?_ ?_
 refine aF ?_
 intros
 exact zr
 refine aD 0 ?_
 intros
 refine aU (fun j9=>?_) (fun j9=>?_)
 refine I 0 ?_
 refine w.fz 37 a (fun dL=>?_) (fun dL=>?_)
 subst dL
 exact ac5
 subst dL
 refine aF ?_
 exact zr
 refine aF ?_
 exact zr
 refine aU (fun pj=>?_) (fun pj=>?_)
 refine I 0 ?_
 refine w.fz 37 a (fun lR=>?_) (fun lR=>?_)
 subst lR
 exact ac5
 subst lR
 refine aF ?_
 exact zr
 refine aF ?_
 exact zr
def Gk(br:Value)(f:List Int)(e:Int)(S:f.length≤100000):M prog 147 #[br,e] [bF br 1 (f.map bH)] [] (fun m B=>m=.bool (decide (e∈f))∧B=[]):=by
 refine M.aM func147 a ntmps147 a fun an=>?_
 refine I 0 ?_
 refine de (bo:=Nat) (fun d=>d≤f.length∧e∉f.take d) (fun d=>[(5,.b (d:Int))]) (fun d=>[]) (fun d=>f.length-d) 0 [0,1] ⟨by omega,by simp⟩ ?_
 rintro d ⟨R,dy⟩
 refine aU ?_ ?_
 refine I 0 ?_
 intros
 obtain ⟨bP,dJ⟩:=c4 (f:=f) (b:=d) E
 refine aU ?_ ?_
 refine aF ?_
 intros
 exact aO ⟨(by simp only [ed];rw [c9 (show e∈f from (bO:bP=e) ▸ eF dJ)]),a⟩
 refine I 1 ?_
 intros
 exact da (d+1) ⟨by omega,g.anv dy dJ bO⟩
 refine aF ?_
 intros
 exact aO ⟨(by simp only [ed];rw [p4 (by rw [ir E] at dy;exact dy)]),a⟩
def Gj(br:Value)(f:List Int)(u:Int)(S:f.length≤100000):M prog 308 #[br,u] [bF br 1 (f.map bH)] [] (fun m B=>m=.b (g.it f u.toNat)∧B=[]):=by
 refine M.aM func308 a ntmps308 a fun an=>?_
 refine I 0 ?_
 refine de (bo:=Nat×Int) (fun (d,s)=>d≤f.length∧((d:Int)≤u∨d=0)∧s=g.it f d) (fun (d,s)=>[(5,.b s),(6,.b (d:Int))]) (fun (d,s)=>[]) (fun (d,s)=>f.length-d) ⟨0,0⟩ [0,1,4] ⟨by omega,.inr rfl,rfl⟩ ?_
 rintro ⟨d,s⟩ ⟨R,hkt,aw⟩
 refine aU (fun eC=>?_) (fun eC=>?_)
 refine aU ?_ ?_
 refine I 0 ?_
 intros
 obtain ⟨cP,il⟩:=c4 (f:=f) (b:=d) E
 refine P uE ?_
 refine I 1 ?_
 exact da ⟨d+1,g.fv s cP⟩ ⟨by omega,.inl E,(by rw [aw];exact (g.TH il).symm)⟩
 refine aF ?_
 intros
 exact adx
 refine aF ?_
 exact adx
def auA(br:Value)(f:List Int)(S:f.length≤100000):M prog 307 #[br] [bF br 1 (f.map bH)] [] (fun m B=>m=.b (g.h0 f)∧B=[]):=by
 refine M.aM func307 a ntmps307 a fun an=>?_
 refine P auK ?_
 exact cH
def auz(br:Value)(f:List Int)(S:f.length≤100000):M prog 248 #[br] [bF br 1 (f.map bH)] [] (fun m B=>m=.b (g.gd (g.h0 f) (f.length:Int))∧B=[]):=by
 refine M.aM func248 a ntmps248 a fun an=>?_
 refine P auA ?_
 refine P auB ?_
 exact cH
def Y2(br:Value)(f:List T)(id:Int)(S:f.length≤100000):M prog 236 #[br,id] [bF br 7 (f.map T.cells)] [] (fun m B=>m=.b (g.Cp f id)∧B=[]):=by
 refine M.aM func236 a ntmps236 a fun an=>?_
 refine I 0 ?_
 refine de (bo:=Nat) (fun d=>d≤f.length∧g.sn f id d) (fun d=>[(5,.b (d:Int))]) (fun d=>[]) (fun d=>f.length-d) 0 [0,1] ⟨by omega,g.sn.zero⟩ ?_
 rintro d ⟨R,dy⟩
 refine aU ?_ ?_
 refine I 0 ?_
 intros
 obtain ⟨bP,dJ⟩:=c4 (f:=f) (b:=d) E
 refine aU ?_ ?_
 refine aF ?_
 intros
 exact aO ⟨(by rw [dy.vf dJ bO];rfl),a⟩
 refine I 1 ?_
 intros
 exact da (d+1) ⟨by omega,dy.next dJ bO⟩
 refine aF ?_
 intros
 exact aO ⟨(by rw [dy.all E];rfl),a⟩
def auN(br:Value)(f S:List Int)(aa mM:Int)(h9:f=S.take f.length)(Az:f.length≤128):M prog 250 #[br,aa,mM] [bF br 1 (f.map bH)] [] (fun m B=>m=.b (g.oi (f.length:Int) S aa mM)∧B=[]):=by
 have gB:0≤(f.length:Int):=by omega
 have q4:=ab.gP aa gB
 have Ag:=g.H6 h9 q4.1 q4.2
 have rP:=g.aha h9 Az
 refine M.aM func250 a ntmps250 a fun an=>?_
 refine P vH ?_
 refine P Gj ?_
 refine P Gj ?_
 refine P Y4 ?_
 refine P uE ?_
 refine I 1 ?_
 refine de (bo:=Nat) (fun d=>ab.cc aa (f.length:Int)+1+(d:Int)≤(f.length:Int)+1∧∀ k:Nat,k < d→¬(g.vM (f.length:Int) S (g.fv (g.iu (f.length:Int) S (ab.cc aa (f.length:Int))) (g.pX (g.iu (f.length:Int) S 128) (ab.cc mM 100)))) (ab.cc aa (f.length:Int)+1+(k:Int))=true) (fun d=>[(9,.b (ab.cc aa (f.length:Int)+1+(d:Int)))]) (fun d=>[]) (fun d=>((f.length:Int)-ab.cc aa (f.length:Int)).toNat-d) 0 [0,8] ⟨by omega,fun k au=>absurd au (ts k)⟩ ?_
 rintro d ⟨R,dy⟩
 refine aU ?_ ?_
 refine P Gj ?_
 refine aU ?_ ?_
 exact adm
 refine I 1 ?_
 intros
 exact da (d+1) ⟨by omega,g.Tr dy (fun au=>absurd (dp au) aaS)⟩
 exact adm
def auv(br:Value)(f S:List Int)(aa nb cut:Int)(h9:f=S.take f.length)(Az:f.length≤128):M prog 251 #[br,aa,nb,cut] [bF br 1 (f.map bH)] [] (fun m B=>m=.b (g.ma (f.length:Int) S aa nb cut)∧B=[]):=by
 have gB:0≤(f.length:Int):=by omega
 have q4:=ab.gP aa gB
 have Ag:=g.H6 h9 q4.1 q4.2
 have kE:=ab.gP nb gB
 refine M.aM func251 a ntmps251 a fun an=>?_
 refine P vH ?_
 refine P vH ?_
 refine aU ?_ ?_
 exact adv
 refine P Gj ?_
 refine P Y4 ?_
 intros
 refine w.n (U.lG a a (by first|omega|(have e4:=g.TG (S:=f) (u:=(ab.cc aa (f.length:Int)).toNat);have dx:=g.arN (l:=g.it f (ab.cc aa (f.length:Int)).toNat) (p:=ab.cc cut 100);omega))) a ?_
 refine I 0 ?_
 refine de (bo:=Nat×Int) (fun (d,hK)=>ab.cc nb (f.length:Int)+(d:Int)≤ab.cc aa (f.length:Int)∧hK=g.nx (g.tW (f.length:Int) S (g.iu (f.length:Int) S (ab.cc aa (f.length:Int))-g.pX (g.iu (f.length:Int) S (ab.cc aa (f.length:Int))) (ab.cc cut 100))) (ab.cc nb (f.length:Int)+(d:Int)-1) (ab.cc nb (f.length:Int)) (ab.cc nb (f.length:Int))) (fun (d,hK)=>[(13,.b hK),(14,.b (ab.cc nb (f.length:Int)+(d:Int)))]) (fun (d,hK)=>[]) (fun (d,hK)=>(ab.cc aa (f.length:Int)-ab.cc nb (f.length:Int)).toNat-d) ⟨0,ab.cc nb (f.length:Int)⟩ [0,8,9,12] ⟨by omega,(by rw [show ab.cc nb (f.length:Int)+((0:Nat):Int)-1=ab.cc nb (f.length:Int)-1 from by omega];exact g.aja.symm)⟩ ?_
 rintro ⟨d,hK⟩ ⟨R,rQ⟩
 refine aU ?_ ?_
 refine P Gj ?_
 refine aU ?_ ?_
 refine I 1 ?_
 intros
 exact da ⟨d+1,ab.cc nb (f.length:Int)+(d:Int)⟩ ⟨by omega,abu⟩
 refine I 1 ?_
 intros
 exact da ⟨d+1,hK⟩ ⟨by omega,abu⟩
 exact adv
def auL(br:Value)(f:List T)(x:Int)(S:f.length≤100000):M prog 168 #[br,x] [bF br 7 (f.map T.cells)] [] (fun m B=>∃ kh wu,m=.tuple #[kh,wu]∧B=[row kh 66 7 ((f.filter (fun e=>decide (g.ew e x=0))).map T.cells),row wu 66 7 ((f.filter (fun e=>!decide (g.ew e x=0))).map T.cells)]):=by
 refine M.aM func168 a ntmps168 a fun an=>K.fC 12 a<|K.fg 66 7 (([]:List T).map T.cells) a<|K.fg 66 7 (([]:List T).map T.cells) a ?_
 refine I 0 ?_
 refine de (bo:=Nat×Value×List T×Value×List T) (fun (d,Va,l,Vb,p)=>d≤f.length∧l=(f.take d).filter (fun e=>decide (g.ew e x=0))∧p=(f.take d).filter (fun e=>!decide (g.ew e x=0))∧l.length≤d∧p.length≤d) (fun (d,Va,l,Vb,p)=>[(6,Va),(7,Vb),(8,.b (d:Int))]) (fun (d,Va,l,Vb,p)=>[row Va 66 7 (l.map T.cells),row Vb 66 7 (p.map T.cells)]) (fun (d,Va,l,Vb,p)=>f.length-d) ⟨0,Value.slice none 0 0,[],Value.slice none 0 0,[]⟩ [0,1,4,5] ⟨by omega,rfl,rfl,by simp,by simp⟩ ?_
 rintro ⟨d,Va,l,Vb,p⟩ ⟨R,V,av,CA,E8⟩
 refine aU ?_ ?_
 refine I 0 ?_
 intros
 obtain ⟨bP,dJ⟩:=c4 (f:=f) (b:=d) E
 refine P Y1 ?_
 refine aU ?_ ?_
 refine aD 2 ?_
 intros
 refine w.f (aq.fs T.cells [bP] iR gE qh a a a aN a a) a ?_
 rintro lv _ rfl
 refine aD 2 ?_
 intro pB
 exact da ⟨d+1,pB,l++([bP]),Vb,p⟩ ⟨by omega,(by rw [g.Ks dJ,V];simp [*]),(by rw [g.Ks dJ,av];simp [*]),hq,E⟩
 refine aD 2 ?_
 intros
 refine w.f (aq.fs T.cells [bP] iR gE qh a a a aN a a) a ?_
 rintro zI _ rfl
 refine aD 2 ?_
 intro j1
 exact da ⟨d+1,Va,l,j1,p++([bP])⟩ ⟨by omega,(by rw [g.Ks dJ,V];simp [*]),(by rw [g.Ks dJ,av];simp [*]),E,hq⟩
 refine I 0 ?_
 intros
 exact K.lE [_,_] [0,1] a ⟨a,a,trivial⟩ a ⟨_,_,a,(by rw [V,av,ir E])⟩
def auD(br:Value)(f:List Int)(dr id:Int)(S:(f.length:Int)≤dr)(jv:0≤dr)(sR:dr≤256)(dy:id∉f):M prog 151 #[br,dr,id] [bF br 1 (f.map bH)] [] (fun m B=>∃ X,m=.tuple #[X,.bool true]∧B=[bF X 1 ((g.gJ f dr.toNat id).map bH)]):=by
 have V7:=g.uo jv (show dr≤1048576 from by omega)
 refine M.aM func151 a ntmps151 a fun an=>?_
 refine P Gk ?_
 refine aD 0 ?_
 refine w.fg 3 1 (([]:List Int).map bH) a ?_
 refine aD 1 ?_
 intro wu
 refine w.f (aq.fs bH [id] gz dt iF a a a aN a a) a ?_
 rintro u0 _ rfl
 refine P vH ?_
 intro fd
 refine aU ?_ ?_
 refine I 0 ?_
 intros
 refine w.A (aV.tU gz dt a (ax.row 1 a) a E E) a<|w.dw 8 a<|K.hv (a'.trans (a'.bz [1,0] a) (a'.wQ (a'.aul (f:=(([]:List Int)++f)++([id])) (l:=(1:Int).toNat) oU a))) ?_
 exact K.lE [_,_] [0] a ⟨a,a,trivial⟩ a ⟨_,a,(by rw [g.aqC (f:=f) (t:=dr.toNat) dy abn];rfl)⟩
 intros
 refine K.fC 7 a<|K.hv (a'.trans (a'.bz [1,0] a) (a'.wQ a'.P2)) ?_
 exact K.lE [_,_] [0] a ⟨a,a,trivial⟩ a ⟨_,a,(by rw [g.aqD (f:=f) (t:=dr.toNat) dy abn];rfl)⟩
def auQ(br:Value)(f:List T)(S:f.length≤100000):M prog 238 #[br] [bF br 7 (f.map T.cells)] [] (fun m B=>∃ p:Bool,m=.tuple #[.b (g.Bl f),.bool p]∧B=[]):=by
 refine M.aM func238 a ntmps238 a fun an=>?_
 refine I 0 ?_
 refine de (bo:=Nat) (fun b=>b≤f.length∧g.so f b) (fun b=>[(4,.b (b:Int))]) (fun b=>[]) (fun b=>f.length-b) 0 [0] ⟨by omega,g.so.zero⟩ ?_
 rintro b ⟨ac,dy⟩
 refine aU ?_ ?_
 refine I 0 ?_
 intros
 obtain ⟨bP,dJ⟩:=c4 (f:=f) (b:=b) E
 refine I 0 ?_
 refine de (bo:=Nat×Bool) (fun (d,j)=>d≤f.length∧j=((f.take d).all fun aI=>!g.iL aI bP)) (fun (d,j)=>[(5,.bool j),(6,.b (d:Int))]) (fun (d,j)=>[]) (fun (d,j)=>f.length-d) ⟨0,true⟩ [0,4] ⟨by omega,rfl⟩ ?_
 rintro ⟨d,j⟩ ⟨R,bU⟩
 refine aU ?_ ?_
 refine I 0 ?_
 intros
 refine K.fD 10 Tryz.bE aN ?_
 refine aD 0 ?_
 refine aj.fz 20 a (fun aZ=>?_) (fun aZ=>?_)
 subst aZ
 refine aD 0 ?_
 obtain ⟨dZ,ji⟩:=c4 (f:=f) (b:=d) E
 refine P auS ?_
 refine I 1 ?_
 exact da ⟨d+1,!(g.iL dZ bP)⟩ ⟨by omega,(by rw [g.agt ji,←bU];rfl)⟩
 subst aZ
 refine aD 1 ?_
 exact da ⟨d+1,false⟩ ⟨by omega,(by rw [hx,QN,←bU];rfl)⟩
 refine I 0 ?_
 intros
 refine K.cond a (fun gi=>?_) (fun gi=>?_)
 subst gi
 refine aF ?_
 exact aO ⟨_,(by rw [dy.vf dJ abf];rfl),a⟩
 subst gi
 refine I 1 ?_
 exact da (b+1) ⟨by omega,dy.next dJ abf⟩
 refine aF ?_
 intros
 exact aO ⟨_,(by rw [dy.all E];rfl),a⟩
def Y7(br:Value)(f:List T)(S:f.length≤1000)(aw:(f.map T.id).Nodup):M prog 237 #[br] [bF br 7 (f.map T.cells)] [] (fun m B=>B=[row m 66 7 ((g.eL f).map T.cells)]):=by
 refine M.aM func237 a ntmps237 a fun an=>K.fC 14 a<|K.lC 66 7 ?_
 refine de (bo:=Nat×Value×List T) (fun (b,X,v)=>b≤f.length∧g.tL f v b) (fun (b,X,v)=>[(3,X),(4,.b (b:Int))]) (fun (b,X,v)=>[row X 66 7 (v.map T.cells)]) (fun (b,X,v)=>f.length-b) ⟨0,Value.slice none 0 0,[]⟩ [0,2] ⟨by omega,g.tL.zero⟩ ?_
 rintro ⟨b,X,v⟩ ⟨ac,hso⟩
 refine aU ?_ ?_
 refine I 0 ?_
 intros
 obtain ⟨bP,dJ⟩:=c4 (f:=f) (b:=b) E
 refine aD 1 ?_
 refine de (bo:=Nat) (fun d=>d≤v.length∧g.v' v bP d) (fun d=>[(5,.b (d:Int))]) (fun d=>[]) (fun d=>d) v.length [0,2,3,4] ⟨by omega,g.v'.start (oQ _)⟩ ?_
 rintro d ⟨R,rQ⟩
 refine I 0 ?_
 refine K.fD 12 Tryz.bE aN ?_
 refine aU (fun e_=>?_) (fun e_=>?_)
 refine aj.Z 2 a<|aj.el (aV.jy iR gE a (ax.b0 0 a) dJ a kf) a a<|aj.el (aV.lX qL gE (ax.b0 0 a) dJ 0 a E a) a a<|aj.Z 2 a<|aj.el (U.dg (U.lG a a tv)) a a ?_
 obtain ⟨cQ,h3⟩:=c4 (f:=v) (b:=(d-1)) E
 refine aj.el (aV.jy iR gE a (ax.row 0 a) h3 a E) a a<|aj.el (aV.lX qL gE (ax.row 0 a) h3 0 a E a) a a<|aj.Cl ?_
 refine P auq ?_
 refine I 0 ?_
 refine K.cond a (fun c7=>?_) (fun c7=>?_)
 refine I 0 ?_
 refine w.n (U.lG a a tv) a ?_
 refine I 0 ?_
 exact da (d-1) ⟨by omega,rQ.next E h3 c7⟩
 refine I 0 ?_
 refine w.A (aV.tT iR gE a (ax.row 0 a) a E E) a<|w.fg 66 7 (([]:List T).map T.cells) a ?_
 refine w.f (aq.gg 0 px oc a a a a a (ax.head (f:=v) (ax.row 1 a) E) T.one tv tv) a ?_
 rintro zI _ rfl
 refine I 0 ?_
 refine w.A (aV.jy iR gE a (ax.b0 0 a) dJ a kf) a<|w.A (aV.lX qL gE (ax.b0 0 a) dJ 0 a E a) a ?_
 refine w.f (aq.fs T.cells [bP] iR gE qh a a a aN a a) a ?_
 rintro j1 _ rfl
 refine w.f (aq.gg 1 px oc a a a a a (ax.row 0 a) T.one tv tv) a ?_
 rintro k' _ rfl
 refine I 0 ?_
 refine w.A (aV.tU iR gE a (ax.row 2 a) a E E) a ?_
 refine w.f (aq.gg 1 px oc a a a a a (ax.tail (f:=v) (ax.row 2 a) E a) T.one tv tv) a ?_
 rintro pz _ rfl
 refine I 1 ?_
 exact da ⟨b+1,pz,((([]:List T)++(v.take ((d:Int)).toNat))++([bP]))++(v.drop ((d:Int)).toNat)⟩ ⟨by omega,(by have au:=hso.next dJ rQ (.inr ⟨cQ,h3,c7⟩);simpa using au)⟩
 refine aD 0 ?_
 refine w.A (aV.tT iR gE a (ax.row 0 a) a E E) a<|w.fg 66 7 (([]:List T).map T.cells) a ?_
 refine w.f (aq.gg 0 px oc a a a a a (ax.head (f:=v) (ax.row 1 a) E) T.one tv tv) a ?_
 rintro qg _ rfl
 refine I 0 ?_
 refine w.A (aV.jy iR gE a (ax.b0 0 a) dJ a kf) a<|w.A (aV.lX qL gE (ax.b0 0 a) dJ 0 a E a) a ?_
 refine w.f (aq.fs T.cells [bP] iR gE qh a a a aN a a) a ?_
 rintro mX _ rfl
 refine aD 1 ?_
 intro hc
 refine w.A (aV.tU iR gE a (ax.row 2 a) a E E) a ?_
 refine w.f (aq.gg 1 px oc a a a a a (ax.tail (f:=v) (ax.row 2 a) E a) T.one tv tv) a ?_
 rintro pA _ rfl
 refine I 1 ?_
 exact da ⟨b+1,pA,((([]:List T)++(v.take ((d:Int)).toNat))++([bP]))++(v.drop ((d:Int)).toNat)⟩ ⟨by omega,(by have au:=hso.next dJ rQ (.inl E);simpa using au)⟩
 refine I 0 ?_
 intros
 exact K.l2 [0] a a a (by rw [hso.all E aw];rfl)
def Kf(br:Value)(f:List T)(dr:Int)(e:T)(S:f.length≤900)(aw:(f.map T.id).Nodup)(dy:∀ F∈f,F.id≠e.id)(jv:0≤dr)(sR:dr≤64)(bh:(f.length:Int) < dr):M prog 154 #[br,dr,e] [bF br 7 (f.map T.cells)] [] (fun m B=>∃ X,m=.tuple #[X,T.zero,.bool false,.b 0]∧B=[row X 66 7 ((g.eL (f++[e])).map T.cells)]):=by
 have yv:((f++[e]).map T.id).Nodup:=by rw [gR,lm];exact ⟨aw,by simp,fun l V p av=>by simp at av;subst av;obtain ⟨F,az,rfl⟩:=bx.1 V;exact dy F az⟩
 refine M.aM func154 a ntmps154 a fun an=>?_
 refine P Y2 ?_
 refine I 0 ?_
 intros
 refine K.fZ a (p4 (by rw [g.EM dy];decide)) ?_
 refine I 0 ?_
 refine w.fg 66 7 (([]:List T).map T.cells) a ?_
 refine aD 2 ?_
 intro fd
 refine w.f (aq.fs T.cells [e] iR gE qh a a a aN a a) a ?_
 rintro lv _ rfl
 refine w.f (aq.gg 1 px oc a a a a a (ax.row 0 a) T.one hq hq) a ?_
 rintro pB _ rfl
 refine I 0 ?_
 refine w.A (aV.jN iR a (ax.row 1 a)) a ?_
 refine I 0 ?_
 refine K.lN a (c9 (by simp only [lK,eh,e6,fq];omega)) ?_
 refine I 0 ?_
 refine w.f (aq.fl call237 (Y7 pB ((([]:List T)++f)++([e])) Lt yv) [] a a (.eo 1 jz a a .nil)) a ?_
 rintro KD _ ⟨_,rfl,rfl⟩
 exact cH
def auP(br:Value)(f:List T)(S:f.length≤100000)(d:Nat)(R:g.Bl f=(d:Int)):M prog 238 #[br] [bF br 7 (f.map T.cells)] [] (fun m B=>∃ p:Bool,m=.tuple #[.b (d:Int),.bool p]∧B=[]):=R ▸ auQ br f S
def Kg(br:Value)(f:List T)(dr:Int)(e F:T)(S:f.length≤900)(aw:(f.map T.id).Nodup)(dy:∀ F∈f,F.id≠e.id)(jv:0≤dr)(sR:dr≤64)(bh:¬(f.length:Int) < dr)(ba:g.xk (f++[e])=some F):M prog 154 #[br,dr,e] [bF br 7 (f.map T.cells)] [] (fun m B=>∃ X,m=.tuple #[X,F,.bool true,.b 0]∧B=[row X 66 7 ((g.eL ((f++[e]).filter fun aI=>decide (aI.id≠F.id))).map T.cells)]):=by
 have yv:((f++[e]).map T.id).Nodup:=by rw [gR,lm];exact ⟨aw,by simp,fun l V p av=>by simp at av;subst av;obtain ⟨F,az,rfl⟩:=bx.1 V;exact dy F az⟩
 obtain ⟨g',aAE,amd,vp⟩:=g.awG ba yv
 have wU:g' < f.length+1:=by have au:=(dD.1 amd).1;simpa using au
 have sS:(((f++[e]).take g'++(f++[e]).drop (g'+1)).map T.id).Nodup:=by rw [vp];exact yv.sublist ((zd).map _)
 refine M.aM func154 a ntmps154 a fun an=>?_
 refine P Y2 ?_
 refine I 0 ?_
 intros
 refine K.fZ a (p4 (by rw [g.EM dy];decide)) ?_
 refine I 0 ?_
 refine w.fg 66 7 (([]:List T).map T.cells) a ?_
 refine aD 2 ?_
 intro fd
 refine w.f (aq.fs T.cells [e] iR gE qh a a a aN a a) a ?_
 rintro lv _ rfl
 refine w.f (aq.gg 1 px oc a a a a a (ax.row 0 a) T.one uP uP) a ?_
 rintro pB _ rfl
 refine I 0 ?_
 refine w.A (aV.jN iR a (ax.row 1 a)) a ?_
 refine I 0 ?_
 refine K.fZ a (p4 (by simp only [lK,eh,e6,fq];omega)) ?_
 refine P auP ?_
 refine aD 4 ?_
 intros
 refine w.A (aV.tT iR gE a (ax.row 2 a) a E uP) a<|w.fg 66 7 (([]:List T).map T.cells) a ?_
 refine w.f (aq.gg 0 px oc a a a a a (ax.head (f:=(([]:List T)++f)++([e])) (ax.row 3 a) uP) T.one uP uP) a ?_
 rintro pz _ rfl
 refine I 1 ?_
 refine w.A (aV.tU iR gE a (ax.row 3 a) a E uP) a ?_
 refine w.f (aq.gg 0 px oc a a a a a (ax.tail (f:=(([]:List T)++f)++([e])) (ax.row 3 a) uP a) T.one uP uP) a ?_
 rintro qg _ rfl
 refine I 0 ?_
 refine K.ef (df [(0,1),(2,1),(1,0),(3,1),(4,0),(5,2)]) [1] Tryz.bE aN a<|aL.Z 1 a<|aL.A a (aV.nG 0 qL gE a a a) a ?_
 refine aL.f a (aq.fl call237 (Y7 qg ((([]:List T)++(((([]:List T)++f)++([e])).take ((g':Int)).toNat))++(((([]:List T)++f)++([e])).drop ((g':Int)+1).toNat)) uP (by have zU:((g':Int)).toNat=g':=E;have e2_:((g':Int)+1).toNat=g'+1:=E;simp only [zU,e2_,lK];exact sS)) [] a a (.eo 0 jz a a .nil)) a ?_
 rintro awD _ ⟨_,rfl,rfl⟩
 refine gr.kV [2] [0] a a<|aL.Z 1 a ?_
 refine aL.cq a (aq.dC 5 gE a a a a a a a) ?_
 rintro _ _ rfl
 refine gr.iS [2] a aN<|aL.Z 2 a<|aL.nil ?_
 exact K.lE [_,_,_,_] [0] a ⟨a,⟨_,_,0,0,_,a,(eZ.ai 5 a),a,(fr.agg [F.id,F.am,F.cg,F.ck,F.eN,F.dm,F.seq] qL gE a a)⟩,a,a,trivial⟩ a ⟨_,a,(by have zU:((g':Int)).toNat=g':=E;have e2_:((g':Int)+1).toNat=g'+1:=E;rw [←vp];simp only [zU,e2_,lK])⟩
def auw(br:Value)(f:List Int)(e s:Int)(S:f.length≤1000)(ana:0≤e)(anb:e < (f.length:Int)):M prog 235 #[br,e,s] [bF br 1 (f.map bH)] [] (fun m B=>∃ X,m=.tuple #[X,.bool true]∧B=[row X 3 1 ((f.set e.toNat (g.fv (f.getD e.toNat 0) s)).map bH)]):=by
 refine M.aM func235 a ntmps235 a fun an=>?_
 refine I 0 ?_
 refine w.kK 11 a (p4 E) ?_
 refine I 0 ?_
 refine w.el (aV.jN gz a (ax.b0 0 a)) a a ?_
 refine I 0 ?_
 refine K.fZ a (p4 E) ?_
 refine I 0 ?_
 refine w.fg 3 1 (([]:List Int).map bH) a ?_
 refine aD 1 ?_
 intro kh
 obtain ⟨bP,dJ⟩:=c4 (f:=(([]:List Int)++f)) (b:=(e).toNat) Lt
 refine P uE ?_
 refine aD 1 ?_
 refine w.cq (aq.jS 0 (k:=(e).toNat) (off:=0) (ae:=[.b (g.fv bP s)]) (r:=[bP]) (g.fv bP s) a a a a E dJ a dt a a a a a) ?_
 rintro _ _ rfl
 refine I 0 ?_
 exact K.lE [_,_] [0] a ⟨a,a,trivial⟩ a ⟨_,a,(by rw [show f.getD e.toNat 0=bP from by rw [ps,show f[e.toNat]?=some bP from (bO:(([]:List Int)++f)[e.toNat]?=some bP)];rfl];rfl)⟩
end Go.Proofs.YtohjlkjhpibkmaaGreatDoor
