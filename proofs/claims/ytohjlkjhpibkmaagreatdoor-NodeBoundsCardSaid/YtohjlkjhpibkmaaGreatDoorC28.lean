/-
  Walks, printed by a program of mine.
-/
import Derived.KernelRfl
import Derived.Test.YtohjlkjhpibkmaaGreatDoorC27
set_option linter.unusedSimpArgs false
set_option linter.unusedVariables false
namespace Go.Proofs.YtohjlkjhpibkmaaGreatDoor
open Go Go.LK Go.Proofs.Tryz
set_option maxRecDepth 100000
set_option maxHeartbeats 4000000
theorem l35_Bounds (b c r:Int) (kn:Nat) (sv:Value) (l:List Sg) (self:Int) (av:Value) (acts:List Ad) (hsv:Value.oneCell' sv=true):Tri prog 3 #[.agg #[.int .i64 b,.int .i64 c,.int .i64 r,.int .u64 (Nat.cast kn:Int),sv],.int .i64 self,av] [rd sv 14 (l.map Sg.cells),ros (l.map Sg.rd),rd av 24 (acts.map Ad.cells),var 1 (Nd.rnames.map vS) 348,var 0 (Nd.widths.map vI) 282] [] (fun v L'=>v=.bool true∧L'=[]):=by
 refine Tri.en func3 H ntmps3 H fun w0=>J.co 2 H<|O.l (Lo.bx H H) H ?_
 rintro _ _ ⟨g1,rfl,rfl⟩
 refine O.oo 5 H<|O.q (Qt.lva 0 A25 Z25 H H H) H<|O.oo 1 H<|O.l (Lo.ca call9 (l35_few b c r kn sv l av acts) [] H H (.ro 0 H (.ro 1 H (.ro 2 H .nil)))) H ?_
 rintro _ _ ⟨_,⟨q2,rfl,hf3,rfl⟩,rfl⟩
 have hfew:=hf3
 refine O.oc 2 H ?_
 refine J.cond H (fun h5=>?_) (fun h5=>?_)
 ·
  have h6:q2=false:=not_flip h5
  refine J.co 2 H<|O.l (Lo.ca call10 l35_awake [] H H .nil) H ?_
  rintro _ _ ⟨_,⟨rfl,rfl⟩,rfl⟩
  refine O.oc 2 H ?_
  exact J.r0 H H ⟨H,H⟩
 have h8:q2=true:=not_flip h5
 refine J.cc 2 H ?_
 refine by_bool (Nd.newB b c r l self) (fun h9=>?_) (fun h9=>?_)
 ·
  obtain ⟨⟨hl10,hc10⟩,hacts⟩:=hfew h8
  have hl:l.length≤1000:=by omega
  have hc:∀ s∈l,s.cl.length≤1000:=fun s hs=>Nat.le_trans (hc10 s hs) (by decide)
  refine J.region<|O.q (Qt.lva 0 A25 Z25 H H H) H<|O.oo 1 H<|O.l (Lo.ca call11 (l35_begin b c r kn sv l self hsv hl hc h9) [] H H (.ro 0 H (.ro 1 H .nil))) H ?_
  rintro _ _ ⟨_,⟨N,Z0,e,he,hN,hZ0,hini,hsvs,rfl,rfl⟩,rfl⟩
  refine O.oc 20 H<|J.nr 41 6 (([]:List Rq).map Rq.cells) H<|J.cc 4 H ?_
  refine J.lo (X:=Nat×Nd.Sx×Value×List Rq) (fun (i,Z,V,cm)=>i≤acts.length∧Z.Ok N∧Z.Lt i∧Nd.BI cm Z.q.t Z.now∧Nd.Full N Z.q.t (Nd.its Z.ps)∧cm.length≤i) (fun (i,Z,V,cm)=>[(9,V),(10,.int .i64 (i:Int))]) (fun (i,Z,V,cm)=>[var N.n (Nd.nC N Z.now Z.ver Z.many Z.calls) 90,ct N Z.k,qu N Z.q,sl N Z.ps,mi N.jb Nd.jobV Z.jm,bun (Nd.nRows 3 Z.jm),wt 195 N.w Z.ws,se N Z.sn,var N.tb (Sh.tbC N.ttl Z.d) 215,row V 41 6 (cm.map Rq.cells)]) (fun (i,Z,V,cm)=>acts.length-i) ⟨0,Z0,Value.slice none 0 0,[]⟩ [1,2,3,7] [1,2,3,4,5,6,7,8,9,0] [10,11,12] ⟨by omega,hZ0,hini.lt,hini.bi.1,hini.bi.2,by simp⟩ ⟨H,(eqi (by omega)),trivial⟩ H H ?_
  rintro ⟨i,Z,V,cm⟩ ⟨hi,hS,hlt,hbi,hfu,hcm⟩
  refine J.co 5 H<|O.q (Qt.lenM U26 H (Src.ro 2 H)) H<|O.oc 2 H ?_
  refine J.cd H (fun p11=>?_) (fun p11=>?_)
  ·
   refine J.co 8 H ?_
   obtain ⟨e12,he12⟩:=ex_at (l:=acts) (i:=i) (by omega)
   refine O.q (Qt.ix U26 sizeOf49 H (Src.ro 2 H) he12 H (by rfl)) H<|O.q (Qt.lea isAgg49 sizeOf49 (Src.ro 2 H) he12 0 H (by omega) H) H<|O.l (Lo.ca call12 (l35_Do N Z i e12 hN hS hlt (by omega)) [0,1,2,3,4,5,6,7,8,10,11] H H (.ro 3 H (.ro 4 H .nil))) H ?_
   rintro _ _ ⟨_,⟨Z1,E1,F1,es,fs,e1,hR1,rfl,rfl⟩,rfl⟩
   obtain ⟨gf,hbo⟩:=Nd.bo_fact hS hbi hfu hR1.2.2
   have hlen:=Nd.do_len hN hS hR1.2.2
   have hqs:=Nd.qs_len hN hR1.1
   refine O.oo 3 H<|O.l (Lo.al Y36 H) H ?_
   rintro _ _ ⟨g14,rfl,rfl⟩
   refine O.one (Src.row 1 H) (fun hV15=>?_)
   refine O.one (Src.row 2 H) (fun hV16=>?_)
   refine O.l0 (Lo.st 0 Z36 H H H H H (by simp only [List.all_cons,List.all_nil,Bool.and_true,hV15,hV16]<;>rfl) H) ?_
   rintro _ _ rfl
   refine O.oc 8 H ?_
   refine J.lo (X:=Nat×Value×List Rq) (fun (ke,V1,dm)=>ke≤es.length∧dm=Nd.BoD cm gf ke) (fun (ke,V1,dm)=>[(9,V1),(13,.int .i64 (ke:Int))]) (fun (ke,V1,dm)=>[row V1 41 6 (dm.map Rq.cells)]) (fun (ke,V1,dm)=>es.length-ke) ⟨0,V,cm⟩ [1,2,3,7,10,11] [14] [0,1,2,3,4,5,6,7,8,9,10,11,12,13,15] ⟨by omega,rfl⟩ ⟨H,(eqi (by omega)),trivial⟩ H H ?_
   rintro ⟨ke,V1,dm⟩ ⟨hke,hD⟩
   refine J.co 5 H<|O.q (Qt.lv 1 A33 H H H) H<|O.q (Qt.lenM U33 H (Src.row 2 H)) H<|O.oc 2 H ?_
   refine J.cd H (fun p17=>?_) (fun p17=>?_)
   ·
    refine J.cc 4 H ?_
    have hdl:dm.length≤cm.length+1:=by rw [hD];exact hbo.dlen
    refine J.co 2 H<|O.q (Qt.lv 1 A33 H H H) H<|O.oo 1 H ?_
    obtain ⟨e18,he18⟩:=ex_at (l:=es) (i:=ke) (by omega)
    refine O.q (Qt.ix U33 Z51 H (Src.row 2 H) he18 H (by rfl)) H<|O.q (Qt.lea isAgg51 Z51 (Src.row 2 H) he18 0 H (by omega) H) H<|O.l (Lo.al Y51 H) H ?_
    rintro _ _ ⟨g19,rfl,rfl⟩
    refine O.l0 (Lo.st 0 Z51 H H H H H H H) ?_
    rintro _ _ rfl
    refine O.oo 5 H<|O.q (Qt.lv 0 A3 H H H) H<|O.oo 2 H ?_
    refine O.sd 61 H (fun p20=>?_) (fun p20=>?_)
    ·
     refine O.oo 1 H<|O.gz (Qt.lv 0 A3 H H H) H H<|O.oc 3 H ?_
     refine J.cd H (fun p21=>?_) (fun p21=>?_)
     ·
      refine J.co 4 H<|O.q (Qt.ix U26 sizeOf49 H (Src.ro 2 H) he12 H (by rfl)) H<|O.oo 1 H<|O.q (Qt.lea A41 Z41 (Src.ro 2 H) he12 2 H (by omega) H) H<|O.l (Lo.bm Rq.cells [(⟨e12.qi,e12.qf,e12.qt,e12.ql,e12.qd,e12.qb⟩:Rq)] U32 Z41 Y41 H H H (by kernel_rfl) H H) H ?_
      rintro V22 _ rfl
      refine O.l (Lo.am 2 underlying32 info41 H H H H H (Src.row 0 H) Rq.one (by first|omega|(simp only [List.length_append,List.length_cons,List.length_nil];omega)|(obtain ⟨h1_,h2_,h3_⟩:=Nd.newB_iff.1 (by assumption:Nd.newB b c r l self=true);omega)) (by first|omega|(simp only [List.length_append,List.length_cons,List.length_nil];omega)|(obtain ⟨h1_,h2_,h3_⟩:=Nd.newB_iff.1 (by assumption:Nd.newB b c r l self=true);omega))) H ?_
      rintro V23 _ rfl
      refine O.oo 6 H<|O.q (Qt.lv 1 A3 H H H) H<|O.oc 2 H<|J.condT H (decide_eq_true (by omega))<|J.co 3 H<|O.p (Pu.add' H H (by omega)) H<|O.oc 2 H ?_
      exact J.lq ⟨ke+1,V23,dm++([(⟨e12.qi,e12.qf,e12.qt,e12.ql,e12.qd,e12.qb⟩:Rq)])⟩ [1,2,3,7,10,11] [2] [3,4,5,6,7,8,9,10,11,12,13,14,15,16,17] ⟨by omega,(by rw [hD];exact hbo.came he18 (by omega) (by omega))⟩ (by (try dsimp only);first|omega|(simp only [List.length_append,List.length_cons,List.length_nil];omega)|(obtain ⟨h1_,h2_,h3_⟩:=Nd.newB_iff.1 (by assumption:Nd.newB b c r l self=true);omega)) ⟨H,(eqi (by rfl)),trivial⟩ H H
     refine J.co 5 H<|O.q (Qt.lv 0 A3 H H H) H<|O.oc 2 H<|J.condT H (decide_eq_true (by omega))<|J.co 3 H<|O.p (Pu.add' H H (by omega)) H<|O.oc 2 H ?_
     exact J.lq ⟨ke+1,V1,dm⟩ [1,2,3,7,10,11] [1] [2,3,4,5,6,7,8,9,10,11,12,13,14,15,16] ⟨by omega,(by rw [hD];exact hbo.next he18 (by omega))⟩ (by dsimp only;omega) ⟨H,(eqi (by omega)),trivial⟩ H H
    refine O.oo 11 H<|O.q (Qt.lv 0 A3 H H H) H<|O.oc 2 H ?_
    refine J.cd H (fun p24=>?_) (fun p24=>?_)
    ·
     refine J.co 3 H<|O.p (Pu.add' H H (by omega)) H<|O.oc 2 H ?_
     exact J.lq ⟨ke+1,V1,dm⟩ [1,2,3,7,10,11] [1] [2,3,4,5,6,7,8,9,10,11,12,13,14,15,16] ⟨by omega,(by rw [hD];exact hbo.next he18 (by omega))⟩ (by dsimp only;omega) ⟨H,(eqi (by omega)),trivial⟩ H H
    refine J.cc 11 H ?_
    refine J.lo (X:=Nat×Int) (fun (kj,pt)=>kj≤dm.length∧Nd.AtC dm e18.id kj pt∧pt≤kj) (fun (kj,pt)=>[(15,.int .i64 pt),(16,.int .i64 (kj:Int))]) (fun (kj,pt)=>[]) (fun (kj,pt)=>dm.length-kj) ⟨0,-1⟩ [1,2,3,7,9,10,11,13,14] [] [0,1,2,3,4,5,6,7,8,9,10,11,12,13,14,15,16] ⟨by omega,Nd.AtC.zero,by omega⟩ ⟨H,(eqi (by omega)),trivial⟩ H H ?_
    rintro ⟨kj,pt⟩ ⟨hkj,hat,hptk⟩
    refine J.co 5 H<|O.q (Qt.lenM U32 H (Src.row 1 H)) H<|O.oc 2 H ?_
    refine J.cd H (fun p25=>?_) (fun p25=>?_)
    ·
     refine J.cc 4 H<|J.drawStill Tryz.mixed (by kernel_rfl)<|S.r 2 H ?_
     obtain ⟨e26,he26⟩:=ex_at (l:=dm) (i:=kj) (by first|omega|(simp only [List.length_append,List.length_cons,List.length_nil];omega)|(obtain ⟨h1_,h2_,h3_⟩:=Nd.newB_iff.1 (by assumption:Nd.newB b c r l self=true);omega))
     refine S.q (Qt.ix U32 Z41 H (Src.row 1 H) he26 H (by rfl)) H<|S.r 1 H<|S.q (Qt.le A3 (Src.row 1 H) he26 0 H (by omega) H) H<|S.r 1 H<|S.q (Qt.lv 0 A3 H H H) H<|S.r 1 H<|S.endJ ?_
     refine J.cd H (fun p27=>?_) (fun p27=>?_)
     ·
      refine J.co 7 H<|O.p (Pu.add' H H (by omega)) H<|O.oc 2 H ?_
      exact J.lq ⟨kj+1,(kj:Int)⟩ [1,2,3,7,9,10,11,13,14] [] [0,1,2,3,4,5,6,7,8,9,10,11,12,13,14,15,16] ⟨by omega,Nd.AtC.hit he26 p27,by omega⟩ (by dsimp only;omega) ⟨H,(eqi (by omega)),trivial⟩ H H
     refine J.co 4 H<|O.p (Pu.add' H H (by omega)) H<|O.oc 2 H ?_
     exact J.lq ⟨kj+1,pt⟩ [1,2,3,7,9,10,11,13,14] [] [0,1,2,3,4,5,6,7,8,9,10,11,12,13,14,15,16] ⟨by omega,hat.miss he26 p27,by omega⟩ (by dsimp only;omega) ⟨H,(eqi (by omega)),trivial⟩ H H
    refine J.cc 2 H ?_
    obtain ⟨p,x,hpt,hp,hx,hb1,hb2,hb3⟩:=hat.all (by omega) (by rw [hD];exact hbo.okS he18 (by omega))
    have hx2:dm[(pt).toNat]?=some x:=by rw [hpt];exact hx
    refine J.drawStill Tryz.mixed (by kernel_rfl)<|S.r 3 H<|S.kf 94 H (decide_eq_false (by omega))<|S.r 1 H<|S.gz (Qt.lv 0 A3 H H H) H H<|S.r 2 H<|S.gz (Qt.ix U32 Z41 H (Src.row 1 H) hx2 H (by omega)) H H<|S.r 1 H<|S.gz (Qt.le A3 (Src.row 1 H) hx2 5 H (by omega) H) H H<|S.r 3 H<|S.kf 104 H (decide_eq_false (by omega))<|S.r 1 H<|S.gz (Qt.lv 0 A3 H H H) H H<|S.r 2 H<|S.gz (Qt.ix U32 Z41 H (Src.row 1 H) hx2 H (by omega)) H H<|S.r 1 H<|S.gz (Qt.le A3 (Src.row 1 H) hx2 4 H (by omega) H) H H<|S.r 3 H<|S.kf 114 H (decide_eq_false (by omega))<|S.r 1 H ?_
    refine S.gz (Qt.lv 0 A3 H H H) H H<|S.r 2 H<|S.gz (Qt.ix U32 Z41 H (Src.row 1 H) hx2 H (by omega)) H H<|S.r 1 H<|S.gz (Qt.le A3 (Src.row 1 H) hx2 4 H (by omega) H) H H<|S.r 2 H<|S.endJ<|J.condF H (decide_eq_false (by omega))<|J.co 4 H<|O.p (Pu.add' H H (by omega)) H<|O.oc 2 H ?_
    exact J.lq ⟨ke+1,V1,dm⟩ [1,2,3,7,10,11] [1] [2,3,4,5,6,7,8,9,10,11,12,13,14,15,16] ⟨by omega,(by rw [hD];exact hbo.next he18 (by omega))⟩ (by dsimp only;omega) ⟨H,(eqi (by omega)),trivial⟩ H H
   refine J.cc 2 H<|J.dm [(0,false),(3,false),(4,false),(5,false),(6,false),(7,false),(8,false),(1,true),(2,false),(9,false),(10,false),(11,false),(14,false),(15,false),(16,false),(17,false),(18,false),(19,false),(12,true),(13,false),(20,false),(21,false),(22,false),(23,false),(24,true),(25,false),(26,false),(27,false),(28,false),(31,false),(32,false),(33,false),(34,false),(35,false),(36,false),(29,true),(30,false),(37,false),(38,false),(39,false)] [15] Tryz.mixed (by kernel_rfl) H<|Mx.r 2 H<|Mx.q H (Qt.lv 0 A23 H H H) H<|Mx.r 1 H<|Mx.q H (Qt.ix U23 Z56 H (Src.ro 0 H) he H (by first|omega|(simp only [List.length_append,List.length_cons,List.length_nil];omega)|(obtain ⟨h1_,h2_,h3_⟩:=Nd.newB_iff.1 (by assumption:Nd.newB b c r l self=true);omega))) H<|Mx.r 1 H<|Mx.q H (Qt.le A3 (Src.ro 0 H) he 1 H (by omega) H) H<|Mx.l H (Lo.ca call13 (nw_Queue N Z1 hN hR1.1) [] H H (.own 4 H H (.own 6 H H .nil))) H ?_
   rintro v30 _ ⟨_,⟨o28,ho29,rfl⟩,rfl⟩
   have hoq:=ho29.length_eq
   refine MxK.gp [0,16] [1] H H<|Mx.q H (Qt.lenM U52 H (Src.row 0 H)) H<|Mx.r 2 H<|Mx.gq (t:=134) H H H (decide_eq_false (by have h1_:=hini.qn;have h2_:=hR1.1.q.hl;omega)) H (Pu.qt (Pu.move H)) H<|Mx.gq (t:=134) H H H (decide_eq_false (by have h1_:=hini.qn;have h2_:=hR1.1.q.hl;omega)) H (Pu.qt (Pu.fieldAddr (off':=4) U25 H Z23 H H H)) H<|Mx.gq (t:=134) H H H (decide_eq_false (by have h1_:=hini.qn;have h2_:=hR1.1.q.hl;omega)) H (Qt.lv 1 A23 H H H) H<|Mx.gq (t:=134) H H H (decide_eq_false (by have h1_:=hini.qn;have h2_:=hR1.1.q.hl;omega)) H (Pu.qt (Pu.move H)) H<|Mx.gq (t:=134) H H H (decide_eq_false (by have h1_:=hini.qn;have h2_:=hR1.1.q.hl;omega)) H (Qt.ix U23 Z56 H (Src.ro 0 H) he H (by first|omega|(simp only [List.length_append,List.length_cons,List.length_nil];omega)|(obtain ⟨h1_,h2_,h3_⟩:=Nd.newB_iff.1 (by assumption:Nd.newB b c r l self=true);omega))) H<|Mx.gq (t:=134) H H H (decide_eq_false (by have h1_:=hini.qn;have h2_:=hR1.1.q.hl;omega)) H (Pu.qt (Pu.fieldAddr (off':=voff sv+(self).toNat*14+0) U56 H Z3 H H H)) H<|Mx.gq (t:=134) H H H (decide_eq_false (by have h1_:=hini.qn;have h2_:=hR1.1.q.hl;omega)) H (Qt.le A3 (Src.ro 0 H) he 0 H (by omega) H) H<|Mx.gl (t:=134) H H H (decide_eq_false (by have h1_:=hini.qn;have h2_:=hR1.1.q.hl;omega)) H (Lo.ca call14 (nw_Jobs N Z1 hN hR1.1) [] H H (.own 5 H H (.own 8 H H (.own 9 H H (.own 10 H H .nil))))) H ?_
   rintro v33 _ ⟨_,⟨jl31,hj32,rfl⟩,rfl⟩
   have hjq:=congrArg List.length hj32
   rw [List.length_map] at hjq
   refine MxK.gp [0,1,17] [1,2] H H<|Mx.gq (t:=134) H H H (decide_eq_false (by have h1_:=hini.qn;have h2_:=hR1.1.q.hl;omega)) H (Qt.lenM U57 H (Src.row 0 H)) H<|Mx.gq (t:=134) H H H (decide_eq_false (by have h1_:=hini.qn;have h2_:=hR1.1.q.hl;omega)) H (Pu.qt (Pu.gtr H H)) H<|Mx.p H (Pu.pickF H (decide_eq_false (by have h1_:=hini.qn;have h2_:=hR1.1.q.hl;omega)) H) H<|Mx.r 1 H<|Mx.gq (t:=146) H H H (decide_eq_false (by have h1_:=hini.wk;have h2_:=Nd.its_le hR1.1.i.hb;have h3_:=hN.hw0;omega)) H (Pu.qt (Pu.move H)) H<|Mx.gl (t:=146) H H H (decide_eq_false (by have h1_:=hini.wk;have h2_:=Nd.its_le hR1.1.i.hb;have h3_:=hN.hw0;omega)) H (Lo.ca call13 (nw_Queue N Z1 hN hR1.1) [] H H (.own 6 H H (.own 8 H H .nil))) H ?_
   rintro v36 _ ⟨_,⟨o34,ho35,rfl⟩,rfl⟩
   have hoq:=ho35.length_eq
   refine MxK.gp [0,1,2,18] [1,2,3] H H<|Mx.gq (t:=146) H H H (decide_eq_false (by have h1_:=hini.wk;have h2_:=Nd.its_le hR1.1.i.hb;have h3_:=hN.hw0;omega)) H (Qt.lenM U52 H (Src.row 0 H)) H<|Mx.gq (t:=146) H H H (decide_eq_false (by have h1_:=hini.wk;have h2_:=Nd.its_le hR1.1.i.hb;have h3_:=hN.hw0;omega)) H (Pu.qt (Pu.gtr H H)) H<|Mx.gq (t:=146) H H H (decide_eq_false (by have h1_:=hini.wk;have h2_:=Nd.its_le hR1.1.i.hb;have h3_:=hN.hw0;omega)) H (Pu.qt (Pu.move H)) H ?_
   refine by_bool (decide (0 < (o34.length:Int))) (fun h37=>?_) (fun h37=>?_)
   ·
    have p38:=of_decide_eq_true h37
    refine Mx.gq (t:=151) H H H h37 H (Pu.qt (Pu.move H)) H<|Mx.gq (t:=151) H H H h37 H (Pu.qt (Pu.fieldAddr (off':=4) U25 H Z23 H H H)) H<|Mx.gq (t:=151) H H H h37 H (Qt.lv 3 A23 H H H) H<|Mx.gq (t:=151) H H H h37 H (Pu.qt (Pu.move H)) H<|Mx.gq (t:=151) H H H h37 H (Qt.ix U23 Z56 H (Src.ro 0 H) he H (by first|omega|(simp only [List.length_append,List.length_cons,List.length_nil];omega)|(obtain ⟨h1_,h2_,h3_⟩:=Nd.newB_iff.1 (by assumption:Nd.newB b c r l self=true);omega))) H<|Mx.gq (t:=151) H H H h37 H (Pu.qt (Pu.fieldAddr (off':=voff sv+(self).toNat*14+0) U56 H Z3 H H H)) H<|Mx.gq (t:=151) H H H h37 H (Qt.le A3 (Src.ro 0 H) he 0 H (by omega) H) H<|Mx.gl (t:=151) H H H h37 H (Lo.ca call14 (nw_Jobs N Z1 hN hR1.1) [] H H (.own 7 H H (.own 10 H H (.own 11 H H (.own 12 H H .nil))))) H ?_
    rintro v41 _ ⟨_,⟨jl39,hj40,rfl⟩,rfl⟩
    have hjq:=congrArg List.length hj40
    rw [List.length_map] at hjq
    refine MxK.gp [0,1,2,3,19] [1,2,3,4] H H<|Mx.gq (t:=151) H H H h37 H (Qt.lenM U57 H (Src.row 0 H)) H<|Mx.gq (t:=151) H H H h37 H (Pu.qt (Pu.lss H H)) H<|Mx.gq (t:=146) H H H (decide_eq_false (by have h1_:=hini.wk;have h2_:=Nd.its_le hR1.1.i.hb;have h3_:=hN.hw0;omega)) H (Pu.qt (Pu.pickT H h37 H)) H<|Mx.p H (Pu.pickF H (decide_eq_false (by have h1_:=hini.wk;have h2_:=Nd.its_le hR1.1.i.hb;have h3_:=hN.hw0;omega)) H) H<|Mx.nil<|J.condF H (decide_eq_false (fun hlt_=>hbo.full.elim (fun h_=>by have hz_:=of_decide_eq_true h37;have h3_:=congrArg List.length h_;simp only [List.length_nil] at h3_;omega) (fun h_=>by have h3_:=hini.wk;omega)))<|J.co 4 H<|O.p (Pu.add' H H (by omega)) H<|O.oc 2 H ?_
    exact J.lq ⟨i+1,Z1,V1,dm⟩ [1,2,3,7] [8,9,10,11,12,13,14,15,16,4] [17,18,19] ⟨by omega,hR1.1,hR1.2.1,(by have h_:=hbo.inv;rw [←hbo.done (k:=ke) (by omega) (by omega),←hD] at h_;exact h_),hbo.full,(by have h_:=congrArg List.length hD;have h2_:=hbo.dlen (k:=ke);omega)⟩ (by dsimp only;omega) ⟨H,(eqi (by omega)),trivial⟩ H H
   have p42:=of_decide_eq_false h37
   refine Mx.gskip (t:=151) H H H (no_bool (by rw [h37];decide)) H H<|Mx.gskip (t:=151) H H H (no_bool (by rw [h37];decide)) H H<|Mx.gskip (t:=151) H H H (no_bool (by rw [h37];decide)) H H<|Mx.gskip (t:=151) H H H (no_bool (by rw [h37];decide)) H H<|Mx.gskip (t:=151) H H H (no_bool (by rw [h37];decide)) H H<|Mx.gskip (t:=151) H H H (no_bool (by rw [h37];decide)) H H<|Mx.gskip (t:=151) H H H (no_bool (by rw [h37];decide)) H H<|Mx.gskipL (t:=151) H H H (no_bool (by rw [h37];decide)) H H<|MxK.gp [0,1,2,18] [0,1,2,3] H H<|Mx.gskip (t:=151) H H H (no_bool (by rw [h37];decide)) H H<|Mx.gskip (t:=151) H H H (no_bool (by rw [h37];decide)) H H<|Mx.gq (t:=146) H H H (decide_eq_false (by have h1_:=hini.wk;have h2_:=Nd.its_le hR1.1.i.hb;have h3_:=hN.hw0;omega)) H (Pu.qt (Pu.pickF H h37 H)) H<|Mx.p H (Pu.pickF H (decide_eq_false (by have h1_:=hini.wk;have h2_:=Nd.its_le hR1.1.i.hb;have h3_:=hN.hw0;omega)) H) H<|Mx.nil<|J.co 5 H<|O.p (Pu.add' H H (by omega)) H<|O.oc 2 H ?_
   exact J.lq ⟨i+1,Z1,V1,dm⟩ [1,2,3,7] [7,8,9,10,11,12,13,14,15,3] [16,17,18] ⟨by omega,hR1.1,hR1.2.1,(by have h_:=hbo.inv;rw [←hbo.done (k:=ke) (by omega) (by omega),←hD] at h_;exact h_),hbo.full,(by have h_:=congrArg List.length hD;have h2_:=hbo.dlen (k:=ke);omega)⟩ (by dsimp only;omega) ⟨H,(eqi (by omega)),trivial⟩ H H
  refine J.co 3 H<|O.l (Lo.ca call10 l35_awake [] H H .nil) H ?_
  rintro _ _ ⟨_,⟨rfl,rfl⟩,rfl⟩
  refine O.oc 2 H ?_
  exact J.r0 H H ⟨H,H⟩
 obtain ⟨⟨hl10,hc10⟩,hacts⟩:=hfew h8
 have hl:l.length≤1000:=by omega
 have hc:∀ s∈l,s.cl.length≤1000:=fun s hs=>Nat.le_trans (hc10 s hs) (by decide)
 refine J.region<|O.q (Qt.lva 0 A25 Z25 H H H) H<|O.oo 1 H<|O.l (Lo.ca call11 (l35_beginNo b c r kn sv l self hsv hl hc h9) [] H H (.ro 0 H (.ro 1 H .nil))) H ?_
 rintro _ _ ⟨_,⟨rfl,rfl⟩,rfl⟩
 refine O.oo 15 H<|O.l (Lo.ca call10 l35_awake [] H H .nil) H ?_
 rintro _ _ ⟨_,⟨rfl,rfl⟩,rfl⟩
 refine O.oc 2 H ?_
 exact J.r0 H H ⟨H,H⟩
end Go.Proofs.YtohjlkjhpibkmaaGreatDoor
