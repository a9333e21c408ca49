/-
  Walks, printed by a program of mine.
-/
import Derived.KernelRfl
import Derived.Test.YtohjlkjhpibkmaaGreatDoorD27
set_option linter.unusedSimpArgs false
set_option linter.unusedVariables false
namespace Go.Proofs.YtohjlkjhpibkmaaGreatDoor
open Go Go.LK Go.Proofs.Tryz
set_option maxRecDepth 100000
set_option maxHeartbeats 4000000
theorem l35_Monotone (b c r:Int) (kn:Nat) (sv:Value) (l:List Sg) (self:Int) (av:Value) (acts:List Ad) (hsv:Value.oneCell' sv=true):Tri prog 5 #[.agg #[.int .i64 b,.int .i64 c,.int .i64 r,.int .u64 (Nat.cast kn:Int),sv],.int .i64 self,av] [rd sv 14 (l.map Sg.cells),ros (l.map Sg.rd),rd av 24 (acts.map Ad.cells),var 1 (Nd.rnames.map vS) 348,var 0 (Nd.widths.map vI) 282] [] (fun v L'=>v=.bool true∧L'=[]):=by
 refine Tri.en F5 H ntmps5 H fun w0=>J.co 2 H<|O.l (Lo.bx H H) H ?_
 rintro _ _ ⟨g1,rfl,rfl⟩
 refine O.oo 5 H<|O.q (Qt.lva 0 A25 Z25 H H H) H<|O.oo 1 H<|O.l (Lo.ca call9 (l35_few b c r kn sv l av acts) [] H H (.ro 0 H (.ro 1 H (.ro 2 H .nil)))) H ?_
 rintro _ _ ⟨_,⟨q2,rfl,hf3,rfl⟩,rfl⟩
 have hfew:=hf3
 refine O.oc 2 H ?_
 refine J.cond H (fun h5=>?_) (fun h5=>?_)
 ·
  have h6:q2=false:=not_flip h5
  refine J.co 2 H<|O.l (Lo.ca call10 l35_awake [] H H .nil) H ?_
  rintro _ _ ⟨_,⟨rfl,rfl⟩,rfl⟩
  refine O.oc 2 H ?_
  exact J.r0 H H ⟨H,H⟩
 have h8:q2=true:=not_flip h5
 refine J.cc 2 H ?_
 refine by_bool (Nd.newB b c r l self) (fun h9=>?_) (fun h9=>?_)
 ·
  obtain ⟨⟨hl10,hc10⟩,hacts⟩:=hfew h8
  have hl:l.length≤1000:=by omega
  have hc:∀ s∈l,s.cl.length≤1000:=fun s hs=>Nat.le_trans (hc10 s hs) (by decide)
  refine J.region<|O.q (Qt.lva 0 A25 Z25 H H H) H<|O.oo 1 H<|O.l (Lo.ca call11 (l35_begin b c r kn sv l self hsv hl hc h9) [] H H (.ro 0 H (.ro 1 H .nil))) H ?_
  rintro _ _ ⟨_,⟨N,Z0,e,he,hN,hZ0,hini,hsvs,rfl,rfl⟩,rfl⟩
  refine O.oc 25 H ?_
  refine J.lo (X:=Nat×Nd.Sx×Int×Int) (fun (i,Z,pa,sto)=>i≤acts.length∧Z.Ok N∧Z.Lt i∧pa < Z.k.thr∧Z.k.thr≤sto∧-1≤pa∧sto≤1000) (fun (i,Z,pa,sto)=>[(9,.int .i64 pa),(10,.int .i64 sto),(11,.int .i64 (i:Int))]) (fun (i,Z,pa,sto)=>[var N.n (Nd.nC N Z.now Z.ver Z.many Z.calls) 90,ct N Z.k,qu N Z.q,sl N Z.ps,mi N.jb Nd.jobV Z.jm,bun (Nd.nRows 3 Z.jm),wt 195 N.w Z.ws,se N Z.sn,var N.tb (Sh.tbC N.ttl Z.d) 215]) (fun (i,Z,pa,sto)=>acts.length-i) ⟨0,Z0,-1,1000⟩ [2,7] [0,1,2,3,4,5,6,7,8] [9,10,11] ⟨by omega,hZ0,hini.lt,(by have h_:=hZ0.k.hp0;omega),(by have h_:=hZ0.k.hp1;have h2_:=hN.hv1;omega),by omega,by omega⟩ ⟨H,H,(eqi (by omega)),trivial⟩ H H ?_
  rintro ⟨i,Z,pa,sto⟩ ⟨hi,hS,hlt,hpa,hsto,hpa1,hsto1⟩
  refine J.co 5 H<|O.q (Qt.lenM U26 H (Src.ro 2 H)) H<|O.oc 2 H ?_
  refine J.cd H (fun p11=>?_) (fun p11=>?_)
  ·
   refine J.co 8 H ?_
   obtain ⟨e12,he12⟩:=ex_at (l:=acts) (i:=i) (by omega)
   refine O.q (Qt.ix U26 sizeOf49 H (Src.ro 2 H) he12 H (by rfl)) H<|O.q (Qt.lea isAgg49 sizeOf49 (Src.ro 2 H) he12 0 H (by omega) H) H<|O.l (Lo.ca call12 (l35_Do N Z i e12 hN hS hlt (by omega)) [0,1,2,3,4,5,6,7,8,9,10] H H (.ro 3 H (.ro 4 H .nil))) H ?_
   rintro _ _ ⟨_,⟨Z1,E1,F1,es,fs,e1,hR1,rfl,rfl⟩,rfl⟩
   have hmo:=Nd.mo_fact hR1.2.2
   have hlen:=Nd.do_len hN hS hR1.2.2
   have hqs:=Nd.qs_len hN hR1.1
   have hthr:0≤Z1.k.thr∧Z1.k.thr≤128:=⟨hR1.1.k.hp0,Int.le_trans hR1.1.k.hp1 hN.hv1⟩
   refine O.oo 3 H<|O.l (Lo.al Y36 H) H ?_
   rintro _ _ ⟨g14,rfl,rfl⟩
   refine O.one (Src.row 1 H) (fun hV15=>?_)
   refine O.one (Src.row 2 H) (fun hV16=>?_)
   refine O.l0 (Lo.st 0 Z36 H H H H H (by simp only [List.all_cons,List.all_nil,Bool.and_true,hV15,hV16]<;>rfl) H) ?_
   rintro _ _ rfl
   refine O.oc 7 H ?_
   refine J.lo (X:=Nat×Int×Int) (fun (ke,pc,sc)=>ke≤es.length∧-1≤pc∧sc≤1000∧pc < sc∧Nd.MoI Z1.k.thr es ke pc sc) (fun (ke,pc,sc)=>[(9,.int .i64 pc),(10,.int .i64 sc),(14,.int .i64 (ke:Int))]) (fun (ke,pc,sc)=>[]) (fun (ke,pc,sc)=>es.length-ke) ⟨0,pa,sto⟩ [2,7,11,12] [] [0,1,2,3,4,5,6,7,8,9,10,11,12,13,14] ⟨by omega,by omega,by omega,by omega,Nd.MoI.start hmo hpa hsto⟩ ⟨H,H,(eqi (by omega)),trivial⟩ H H ?_
   rintro ⟨ke,pc,sc⟩ ⟨hke,hpc,hsc,hpsc,hmi⟩
   refine J.co 5 H<|O.q (Qt.lv 0 A33 H H H) H<|O.q (Qt.lenM U33 H (Src.row 1 H)) H<|O.oc 2 H ?_
   refine J.cd H (fun p17=>?_) (fun p17=>?_)
   ·
    refine J.co 6 H<|O.q (Qt.lv 0 A33 H H H) H<|O.oo 1 H ?_
    obtain ⟨e18,he18⟩:=ex_at (l:=es) (i:=ke) (by omega)
    refine O.q (Qt.ix U33 Z51 H (Src.row 1 H) he18 H (by rfl)) H<|O.q (Qt.lea isAgg51 Z51 (Src.row 1 H) he18 0 H (by omega) H) H<|O.l (Lo.al Y51 H) H ?_
    rintro _ _ ⟨g19,rfl,rfl⟩
    refine O.l0 (Lo.st 0 Z51 H H H H H H H) ?_
    rintro _ _ rfl
    refine O.oo 5 H<|O.q (Qt.lv 0 A3 H H H) H<|O.oo 2 H ?_
    refine O.sd 62 H (fun p20=>?_) (fun p20=>?_)
    ·
     refine O.oo 19 H<|O.q (Qt.lv 0 A3 H H H) H<|O.oo 2 H<|O.kf 75 H (decide_eq_false (by omega))<|O.oo 11 H<|O.q (Qt.lv 0 A3 H H H) H<|O.oo 2 H<|O.kf 87 H (decide_eq_false (by omega))<|O.oo 10 H<|O.l (Lo.ca call13 (nw_Queue N Z1 hN hR1.1) [] H H (.own 4 H H (.own 6 H H .nil))) H ?_
     rintro v23 _ ⟨_,⟨o21,ho22,rfl⟩,rfl⟩
     have hoq:=ho22.length_eq
     refine O.oc 8 H ?_
     refine J.lo (X:=Nat) (fun kq=>kq≤o21.length) (fun kq=>[(17,.int .i64 (kq:Int))]) (fun kq=>[]) (fun kq=>o21.length-kq) 0 [2,7,9,10,11,12,14,15,16] [] [0,1,2,3,4,5,6,7,8,9,10,11,12,13,14,15,16] (by omega) ⟨(eqi (by omega)),trivial⟩ H H ?_
     rintro kq hkq
     try dsimp only at hkq
     refine J.co 4 H<|O.q (Qt.lv 1 A3 H H H) H<|O.oo 2 H ?_
     refine O.sd 101 H (fun p24=>?_) (fun p24=>?_)
     ·
      refine O.oo 1 H<|O.gz (Qt.lv 1 A3 H H H) H H<|O.oo 3 H ?_
      refine O.sd 106 H (fun p25=>?_) (fun p25=>?_)
      ·
       refine O.oo 2 H<|O.gz (Qt.lenM U52 H (Src.row 0 H)) H H<|O.oc 3 H ?_
       refine J.cd H (fun p26=>?_) (fun p26=>?_)
       ·
        refine J.cc 4 H<|J.drawStill Tryz.mixed (by kernel_rfl)<|S.r 2 H ?_
        obtain ⟨e27,he27⟩:=ex_at (l:=o21) (i:=kq) (by omega)
        refine S.q (Qt.ix U52 Z66 H (Src.row 0 H) he27 H (by rfl)) H<|S.r 1 H<|S.q (Qt.le A3 (Src.row 0 H) he27 1 H (by omega) H) H<|S.r 1 H<|S.q (Qt.lv 1 A3 H H H) H<|S.r 1 H<|S.endJ<|J.condF H (decide_eq_false (by have h_:=Nd.mo_evict hmo he18 (by omega) (by omega) ho22 he27;omega))<|J.co 4 H<|O.p (Pu.add' H H (by omega)) H<|O.oc 2 H ?_
        exact J.lq (kq+1) [2,7,9,10,11,12,14,15,16] [] [0,1,2,3,4,5,6,7,8,9,10,11,12,13,14,15,16] (by omega) (by omega) ⟨(eqi (by omega)),trivial⟩ H H
       refine J.cc 7 H<|J.condF H (decide_eq_false (by have h4_:=(⟨(by omega),(by omega),(by omega),Nd.MoI.rst hthr.1 hthr.2⟩:(-1:Int)≤(-1)∧((1000):Int)≤1000∧((-1):Int) < (1000)∧Nd.MoI Z1.k.thr es (ke+1) (-1) 1000);exact Int.not_le.2 h4_.2.2.1))<|J.co 4 H<|O.p (Pu.add' H H (by omega)) H<|O.oc 2 H ?_
       exact J.lq ⟨ke+1,-1,1000⟩ [2,7,11,12] [] [2,3,4,5,6,7,8,9,10,11,12,13,14,15,16] ⟨by omega,(⟨(by omega),(by omega),(by omega),Nd.MoI.rst hthr.1 hthr.2⟩:(-1:Int)≤(-1)∧((1000):Int)≤1000∧((-1):Int) < (1000)∧Nd.MoI Z1.k.thr es (ke+1) (-1) 1000)⟩ (by omega) ⟨H,H,(eqi (by omega)),trivial⟩ H H
      refine O.oc 14 H<|J.condF H (decide_eq_false (by have h4_:=(⟨(by omega),(by omega),(by omega),Nd.MoI.rst hthr.1 hthr.2⟩:(-1:Int)≤(-1)∧((1000):Int)≤1000∧((-1):Int) < (1000)∧Nd.MoI Z1.k.thr es (ke+1) (-1) 1000);exact Int.not_le.2 h4_.2.2.1))<|J.co 4 H<|O.p (Pu.add' H H (by omega)) H<|O.oc 2 H ?_
      exact J.lq ⟨ke+1,-1,1000⟩ [2,7,11,12] [] [2,3,4,5,6,7,8,9,10,11,12,13,14,15,16] ⟨by omega,(⟨(by omega),(by omega),(by omega),Nd.MoI.rst hthr.1 hthr.2⟩:(-1:Int)≤(-1)∧((1000):Int)≤1000∧((-1):Int) < (1000)∧Nd.MoI Z1.k.thr es (ke+1) (-1) 1000)⟩ (by omega) ⟨H,H,(eqi (by omega)),trivial⟩ H H
     refine O.oc 19 H<|J.condF H (decide_eq_false (by have h4_:=(⟨(by omega),(by omega),(by omega),Nd.MoI.rst hthr.1 hthr.2⟩:(-1:Int)≤(-1)∧((1000):Int)≤1000∧((-1):Int) < (1000)∧Nd.MoI Z1.k.thr es (ke+1) (-1) 1000);exact Int.not_le.2 h4_.2.2.1))<|J.co 4 H<|O.p (Pu.add' H H (by omega)) H<|O.oc 2 H ?_
     exact J.lq ⟨ke+1,-1,1000⟩ [2,7,11,12] [] [2,3,4,5,6,7,8,9,10,11,12,13,14,15,16] ⟨by omega,(⟨(by omega),(by omega),(by omega),Nd.MoI.rst hthr.1 hthr.2⟩:(-1:Int)≤(-1)∧((1000):Int)≤1000∧((-1):Int) < (1000)∧Nd.MoI Z1.k.thr es (ke+1) (-1) 1000)⟩ (by dsimp only;omega) ⟨H,H,(eqi (by omega)),trivial⟩ H H
    refine O.oo 1 H<|O.gz (Qt.lv 0 A3 H H H) H H<|O.oo 3 H ?_
    refine O.sd 67 H (fun p28=>?_) (fun p28=>?_)
    ·
     refine O.oo 14 H<|O.q (Qt.lv 0 A3 H H H) H<|O.oo 2 H<|O.kf 75 H (decide_eq_false (by omega))<|O.oo 11 H<|O.q (Qt.lv 0 A3 H H H) H<|O.oo 2 H<|O.kf 87 H (decide_eq_false (by omega))<|O.oo 10 H<|O.l (Lo.ca call13 (nw_Queue N Z1 hN hR1.1) [] H H (.own 4 H H (.own 6 H H .nil))) H ?_
     rintro v31 _ ⟨_,⟨o29,ho30,rfl⟩,rfl⟩
     have hoq:=ho30.length_eq
     refine O.oc 8 H ?_
     refine J.lo (X:=Nat) (fun kq=>kq≤o29.length) (fun kq=>[(17,.int .i64 (kq:Int))]) (fun kq=>[]) (fun kq=>o29.length-kq) 0 [2,7,9,10,11,12,14,15,16] [] [0,1,2,3,4,5,6,7,8,9,10,11,12,13,14,15,16] (by omega) ⟨(eqi (by omega)),trivial⟩ H H ?_
     rintro kq hkq
     try dsimp only at hkq
     refine J.co 4 H<|O.q (Qt.lv 1 A3 H H H) H<|O.oo 2 H ?_
     refine O.sd 101 H (fun p32=>?_) (fun p32=>?_)
     ·
      refine O.oo 1 H<|O.gz (Qt.lv 1 A3 H H H) H H<|O.oo 3 H ?_
      refine O.sd 106 H (fun p33=>?_) (fun p33=>?_)
      ·
       refine O.oo 2 H<|O.gz (Qt.lenM U52 H (Src.row 0 H)) H H<|O.oc 3 H ?_
       refine J.cd H (fun p34=>?_) (fun p34=>?_)
       ·
        refine J.cc 4 H<|J.drawStill Tryz.mixed (by kernel_rfl)<|S.r 2 H ?_
        obtain ⟨e35,he35⟩:=ex_at (l:=o29) (i:=kq) (by omega)
        refine S.q (Qt.ix U52 Z66 H (Src.row 0 H) he35 H (by rfl)) H<|S.r 1 H<|S.q (Qt.le A3 (Src.row 0 H) he35 1 H (by omega) H) H<|S.r 1 H<|S.q (Qt.lv 1 A3 H H H) H<|S.r 1 H<|S.endJ<|J.condF H (decide_eq_false (by have h_:=Nd.mo_evict hmo he18 (by omega) (by omega) ho30 he35;omega))<|J.co 4 H<|O.p (Pu.add' H H (by omega)) H<|O.oc 2 H ?_
        exact J.lq (kq+1) [2,7,9,10,11,12,14,15,16] [] [0,1,2,3,4,5,6,7,8,9,10,11,12,13,14,15,16] (by omega) (by omega) ⟨(eqi (by omega)),trivial⟩ H H
       refine J.cc 7 H<|J.condF H (decide_eq_false (by have h4_:=(⟨(by omega),(by omega),(by omega),Nd.MoI.rst hthr.1 hthr.2⟩:(-1:Int)≤(-1)∧((1000):Int)≤1000∧((-1):Int) < (1000)∧Nd.MoI Z1.k.thr es (ke+1) (-1) 1000);exact Int.not_le.2 h4_.2.2.1))<|J.co 4 H<|O.p (Pu.add' H H (by omega)) H<|O.oc 2 H ?_
       exact J.lq ⟨ke+1,-1,1000⟩ [2,7,11,12] [] [2,3,4,5,6,7,8,9,10,11,12,13,14,15,16] ⟨by omega,(⟨(by omega),(by omega),(by omega),Nd.MoI.rst hthr.1 hthr.2⟩:(-1:Int)≤(-1)∧((1000):Int)≤1000∧((-1):Int) < (1000)∧Nd.MoI Z1.k.thr es (ke+1) (-1) 1000)⟩ (by omega) ⟨H,H,(eqi (by omega)),trivial⟩ H H
      refine O.oc 14 H<|J.condF H (decide_eq_false (by have h4_:=(⟨(by omega),(by omega),(by omega),Nd.MoI.rst hthr.1 hthr.2⟩:(-1:Int)≤(-1)∧((1000):Int)≤1000∧((-1):Int) < (1000)∧Nd.MoI Z1.k.thr es (ke+1) (-1) 1000);exact Int.not_le.2 h4_.2.2.1))<|J.co 4 H<|O.p (Pu.add' H H (by omega)) H<|O.oc 2 H ?_
      exact J.lq ⟨ke+1,-1,1000⟩ [2,7,11,12] [] [2,3,4,5,6,7,8,9,10,11,12,13,14,15,16] ⟨by omega,(⟨(by omega),(by omega),(by omega),Nd.MoI.rst hthr.1 hthr.2⟩:(-1:Int)≤(-1)∧((1000):Int)≤1000∧((-1):Int) < (1000)∧Nd.MoI Z1.k.thr es (ke+1) (-1) 1000)⟩ (by omega) ⟨H,H,(eqi (by omega)),trivial⟩ H H
     refine O.oc 19 H<|J.condF H (decide_eq_false (by have h4_:=(⟨(by omega),(by omega),(by omega),Nd.MoI.rst hthr.1 hthr.2⟩:(-1:Int)≤(-1)∧((1000):Int)≤1000∧((-1):Int) < (1000)∧Nd.MoI Z1.k.thr es (ke+1) (-1) 1000);exact Int.not_le.2 h4_.2.2.1))<|J.co 4 H<|O.p (Pu.add' H H (by omega)) H<|O.oc 2 H ?_
     exact J.lq ⟨ke+1,-1,1000⟩ [2,7,11,12] [] [2,3,4,5,6,7,8,9,10,11,12,13,14,15,16] ⟨by omega,(⟨(by omega),(by omega),(by omega),Nd.MoI.rst hthr.1 hthr.2⟩:(-1:Int)≤(-1)∧((1000):Int)≤1000∧((-1):Int) < (1000)∧Nd.MoI Z1.k.thr es (ke+1) (-1) 1000)⟩ (by dsimp only;omega) ⟨H,H,(eqi (by omega)),trivial⟩ H H
    refine O.oo 1 H<|O.gz (Qt.lv 0 A3 H H H) H H<|O.oc 3 H ?_
    refine J.cd H (fun p36=>?_) (fun p36=>?_)
    ·
     refine J.co 8 H<|O.q (Qt.lv 0 A3 H H H) H<|O.oo 2 H<|O.kf 75 H (decide_eq_false (by omega))<|O.oo 11 H<|O.q (Qt.lv 0 A3 H H H) H<|O.oo 2 H<|O.kf 87 H (decide_eq_false (by omega))<|O.oo 10 H<|O.l (Lo.ca call13 (nw_Queue N Z1 hN hR1.1) [] H H (.own 4 H H (.own 6 H H .nil))) H ?_
     rintro v39 _ ⟨_,⟨o37,ho38,rfl⟩,rfl⟩
     have hoq:=ho38.length_eq
     refine O.oc 8 H ?_
     refine J.lo (X:=Nat) (fun kq=>kq≤o37.length) (fun kq=>[(17,.int .i64 (kq:Int))]) (fun kq=>[]) (fun kq=>o37.length-kq) 0 [2,7,9,10,11,12,14,15,16] [] [0,1,2,3,4,5,6,7,8,9,10,11,12,13,14,15,16] (by omega) ⟨(eqi (by omega)),trivial⟩ H H ?_
     rintro kq hkq
     try dsimp only at hkq
     refine J.co 4 H<|O.q (Qt.lv 1 A3 H H H) H<|O.oo 2 H ?_
     refine O.sd 101 H (fun p40=>?_) (fun p40=>?_)
     ·
      refine O.oo 1 H<|O.gz (Qt.lv 1 A3 H H H) H H<|O.oo 3 H ?_
      refine O.sd 106 H (fun p41=>?_) (fun p41=>?_)
      ·
       refine O.oo 2 H<|O.gz (Qt.lenM U52 H (Src.row 0 H)) H H<|O.oc 3 H ?_
       refine J.cd H (fun p42=>?_) (fun p42=>?_)
       ·
        refine J.cc 4 H<|J.drawStill Tryz.mixed (by kernel_rfl)<|S.r 2 H ?_
        obtain ⟨e43,he43⟩:=ex_at (l:=o37) (i:=kq) (by omega)
        refine S.q (Qt.ix U52 Z66 H (Src.row 0 H) he43 H (by rfl)) H<|S.r 1 H<|S.q (Qt.le A3 (Src.row 0 H) he43 1 H (by omega) H) H<|S.r 1 H<|S.q (Qt.lv 1 A3 H H H) H<|S.r 1 H<|S.endJ<|J.condF H (decide_eq_false (by have h_:=Nd.mo_evict hmo he18 (by omega) (by omega) ho38 he43;omega))<|J.co 4 H<|O.p (Pu.add' H H (by omega)) H<|O.oc 2 H ?_
        exact J.lq (kq+1) [2,7,9,10,11,12,14,15,16] [] [0,1,2,3,4,5,6,7,8,9,10,11,12,13,14,15,16] (by omega) (by omega) ⟨(eqi (by omega)),trivial⟩ H H
       refine J.cc 7 H<|J.condF H (decide_eq_false (by have h4_:=(⟨(by omega),(by omega),(by omega),Nd.MoI.rst hthr.1 hthr.2⟩:(-1:Int)≤(-1)∧((1000):Int)≤1000∧((-1):Int) < (1000)∧Nd.MoI Z1.k.thr es (ke+1) (-1) 1000);exact Int.not_le.2 h4_.2.2.1))<|J.co 4 H<|O.p (Pu.add' H H (by omega)) H<|O.oc 2 H ?_
       exact J.lq ⟨ke+1,-1,1000⟩ [2,7,11,12] [] [2,3,4,5,6,7,8,9,10,11,12,13,14,15,16] ⟨by omega,(⟨(by omega),(by omega),(by omega),Nd.MoI.rst hthr.1 hthr.2⟩:(-1:Int)≤(-1)∧((1000):Int)≤1000∧((-1):Int) < (1000)∧Nd.MoI Z1.k.thr es (ke+1) (-1) 1000)⟩ (by omega) ⟨H,H,(eqi (by omega)),trivial⟩ H H
      refine O.oc 14 H<|J.condF H (decide_eq_false (by have h4_:=(⟨(by omega),(by omega),(by omega),Nd.MoI.rst hthr.1 hthr.2⟩:(-1:Int)≤(-1)∧((1000):Int)≤1000∧((-1):Int) < (1000)∧Nd.MoI Z1.k.thr es (ke+1) (-1) 1000);exact Int.not_le.2 h4_.2.2.1))<|J.co 4 H<|O.p (Pu.add' H H (by omega)) H<|O.oc 2 H ?_
      exact J.lq ⟨ke+1,-1,1000⟩ [2,7,11,12] [] [2,3,4,5,6,7,8,9,10,11,12,13,14,15,16] ⟨by omega,(⟨(by omega),(by omega),(by omega),Nd.MoI.rst hthr.1 hthr.2⟩:(-1:Int)≤(-1)∧((1000):Int)≤1000∧((-1):Int) < (1000)∧Nd.MoI Z1.k.thr es (ke+1) (-1) 1000)⟩ (by omega) ⟨H,H,(eqi (by omega)),trivial⟩ H H
     refine O.oc 19 H<|J.condF H (decide_eq_false (by have h4_:=(⟨(by omega),(by omega),(by omega),Nd.MoI.rst hthr.1 hthr.2⟩:(-1:Int)≤(-1)∧((1000):Int)≤1000∧((-1):Int) < (1000)∧Nd.MoI Z1.k.thr es (ke+1) (-1) 1000);exact Int.not_le.2 h4_.2.2.1))<|J.co 4 H<|O.p (Pu.add' H H (by omega)) H<|O.oc 2 H ?_
     exact J.lq ⟨ke+1,-1,1000⟩ [2,7,11,12] [] [2,3,4,5,6,7,8,9,10,11,12,13,14,15,16] ⟨by omega,(⟨(by omega),(by omega),(by omega),Nd.MoI.rst hthr.1 hthr.2⟩:(-1:Int)≤(-1)∧((1000):Int)≤1000∧((-1):Int) < (1000)∧Nd.MoI Z1.k.thr es (ke+1) (-1) 1000)⟩ (by dsimp only;omega) ⟨H,H,(eqi (by omega)),trivial⟩ H H
    refine J.co 5 H<|O.q (Qt.lv 0 A3 H H H) H<|O.oo 2 H ?_
    refine O.sd 75 H (fun p44=>?_) (fun p44=>?_)
    ·
     refine O.oo 1 H<|O.gz (Qt.lv 0 A3 H H H) H H<|O.oc 3 H ?_
     refine J.cd H (fun p45=>?_) (fun p45=>?_)
     ·
      refine J.co 3 H<|O.q (Qt.lv 0 A3 H H H) H<|O.p (Pu.max H H) H<|O.oo 6 H<|O.q (Qt.lv 0 A3 H H H) H<|O.oo 2 H<|O.kt 87 H (decide_eq_true p44)<|O.oo 1 H<|O.gz (Qt.lv 0 A3 H H H) H H<|O.oc 3 H<|J.condF H (decide_eq_false (by omega))<|J.co 4 H<|O.l (Lo.ca call13 (nw_Queue N Z1 hN hR1.1) [] H H (.own 4 H H (.own 6 H H .nil))) H ?_
      rintro v48 _ ⟨_,⟨o46,ho47,rfl⟩,rfl⟩
      have hoq:=ho47.length_eq
      refine O.oc 8 H ?_
      refine J.lo (X:=Nat) (fun kq=>kq≤o46.length) (fun kq=>[(17,.int .i64 (kq:Int))]) (fun kq=>[]) (fun kq=>o46.length-kq) 0 [2,7,9,10,11,12,14,15,16] [] [0,1,2,3,4,5,6,7,8,9,10,11,12,13,14,15,16] (by omega) ⟨(eqi (by omega)),trivial⟩ H H ?_
      rintro kq hkq
      try dsimp only at hkq
      refine J.co 4 H<|O.q (Qt.lv 1 A3 H H H) H<|O.oo 2 H ?_
      refine O.sd 101 H (fun p49=>?_) (fun p49=>?_)
      ·
       refine O.oo 1 H<|O.gz (Qt.lv 1 A3 H H H) H H<|O.oo 3 H ?_
       refine O.sd 106 H (fun p50=>?_) (fun p50=>?_)
       ·
        refine O.oo 2 H<|O.gz (Qt.lenM U52 H (Src.row 0 H)) H H<|O.oc 3 H ?_
        refine J.cd H (fun p51=>?_) (fun p51=>?_)
        ·
         refine J.cc 4 H<|J.drawStill Tryz.mixed (by kernel_rfl)<|S.r 2 H ?_
         obtain ⟨e52,he52⟩:=ex_at (l:=o46) (i:=kq) (by omega)
         refine S.q (Qt.ix U52 Z66 H (Src.row 0 H) he52 H (by rfl)) H<|S.r 1 H<|S.q (Qt.le A3 (Src.row 0 H) he52 1 H (by omega) H) H<|S.r 1 H<|S.q (Qt.lv 1 A3 H H H) H<|S.r 1 H<|S.endJ<|J.condF H (decide_eq_false (by have h_:=Nd.mo_evict hmo he18 (by omega) (by omega) ho47 he52;omega))<|J.co 4 H<|O.p (Pu.add' H H (by omega)) H<|O.oc 2 H ?_
         exact J.lq (kq+1) [2,7,9,10,11,12,14,15,16] [] [0,1,2,3,4,5,6,7,8,9,10,11,12,13,14,15,16] (by omega) (by omega) ⟨(eqi (by omega)),trivial⟩ H H
        refine J.cc 7 H<|J.condF H (decide_eq_false (by have h4_:=(⟨(by have h1_:=hmi.came he18 (by omega);have h2_:=hmo.g _ (List.mem_of_getElem? he18) (by omega);have h3_:=h2_.1 (by omega);(try split)<;>omega),(by have h1_:=hmi.came he18 (by omega);have h2_:=hmo.g _ (List.mem_of_getElem? he18) (by omega);have h3_:=h2_.1 (by omega);(try split)<;>omega),(by have h1_:=hmi.came he18 (by omega);have h2_:=hmo.g _ (List.mem_of_getElem? he18) (by omega);have h3_:=h2_.1 (by omega);(try split)<;>omega),.inl ⟨(by have h1_:=hmi.came he18 (by omega);have h2_:=hmo.g _ (List.mem_of_getElem? he18) (by omega);have h3_:=h2_.1 (by omega);(try split)<;>omega),(by have h1_:=hmi.came he18 (by omega);have h2_:=hmo.g _ (List.mem_of_getElem? he18) (by omega);have h3_:=h2_.1 (by omega);(try split)<;>omega)⟩⟩:(-1:Int)≤(if e18.a > pc then e18.a else pc)∧((sc):Int)≤1000∧((if e18.a > pc then e18.a else pc):Int) < (sc)∧Nd.MoI Z1.k.thr es (ke+1) (if e18.a > pc then e18.a else pc) sc);exact Int.not_le.2 h4_.2.2.1))<|J.co 4 H<|O.p (Pu.add' H H (by omega)) H<|O.oc 2 H ?_
        exact J.lq ⟨ke+1,if e18.a > pc then e18.a else pc,sc⟩ [2,7,11,12] [] [2,3,4,5,6,7,8,9,10,11,12,13,14,15,16] ⟨by omega,(⟨(by have h1_:=hmi.came he18 (by omega);have h2_:=hmo.g _ (List.mem_of_getElem? he18) (by omega);have h3_:=h2_.1 (by omega);(try split)<;>omega),(by have h1_:=hmi.came he18 (by omega);have h2_:=hmo.g _ (List.mem_of_getElem? he18) (by omega);have h3_:=h2_.1 (by omega);(try split)<;>omega),(by have h1_:=hmi.came he18 (by omega);have h2_:=hmo.g _ (List.mem_of_getElem? he18) (by omega);have h3_:=h2_.1 (by omega);(try split)<;>omega),.inl ⟨(by have h1_:=hmi.came he18 (by omega);have h2_:=hmo.g _ (List.mem_of_getElem? he18) (by omega);have h3_:=h2_.1 (by omega);(try split)<;>omega),(by have h1_:=hmi.came he18 (by omega);have h2_:=hmo.g _ (List.mem_of_getElem? he18) (by omega);have h3_:=h2_.1 (by omega);(try split)<;>omega)⟩⟩:(-1:Int)≤(if e18.a > pc then e18.a else pc)∧((sc):Int)≤1000∧((if e18.a > pc then e18.a else pc):Int) < (sc)∧Nd.MoI Z1.k.thr es (ke+1) (if e18.a > pc then e18.a else pc) sc)⟩ (by omega) ⟨H,H,(eqi (by omega)),trivial⟩ H H
       refine O.oc 14 H<|J.condF H (decide_eq_false (by have h4_:=(⟨(by have h1_:=hmi.came he18 (by omega);have h2_:=hmo.g _ (List.mem_of_getElem? he18) (by omega);have h3_:=h2_.1 (by omega);(try split)<;>omega),(by have h1_:=hmi.came he18 (by omega);have h2_:=hmo.g _ (List.mem_of_getElem? he18) (by omega);have h3_:=h2_.1 (by omega);(try split)<;>omega),(by have h1_:=hmi.came he18 (by omega);have h2_:=hmo.g _ (List.mem_of_getElem? he18) (by omega);have h3_:=h2_.1 (by omega);(try split)<;>omega),.inl ⟨(by have h1_:=hmi.came he18 (by omega);have h2_:=hmo.g _ (List.mem_of_getElem? he18) (by omega);have h3_:=h2_.1 (by omega);(try split)<;>omega),(by have h1_:=hmi.came he18 (by omega);have h2_:=hmo.g _ (List.mem_of_getElem? he18) (by omega);have h3_:=h2_.1 (by omega);(try split)<;>omega)⟩⟩:(-1:Int)≤(if e18.a > pc then e18.a else pc)∧((sc):Int)≤1000∧((if e18.a > pc then e18.a else pc):Int) < (sc)∧Nd.MoI Z1.k.thr es (ke+1) (if e18.a > pc then e18.a else pc) sc);exact Int.not_le.2 h4_.2.2.1))<|J.co 4 H<|O.p (Pu.add' H H (by omega)) H<|O.oc 2 H ?_
       exact J.lq ⟨ke+1,if e18.a > pc then e18.a else pc,sc⟩ [2,7,11,12] [] [2,3,4,5,6,7,8,9,10,11,12,13,14,15,16] ⟨by omega,(⟨(by have h1_:=hmi.came he18 (by omega);have h2_:=hmo.g _ (List.mem_of_getElem? he18) (by omega);have h3_:=h2_.1 (by omega);(try split)<;>omega),(by have h1_:=hmi.came he18 (by omega);have h2_:=hmo.g _ (List.mem_of_getElem? he18) (by omega);have h3_:=h2_.1 (by omega);(try split)<;>omega),(by have h1_:=hmi.came he18 (by omega);have h2_:=hmo.g _ (List.mem_of_getElem? he18) (by omega);have h3_:=h2_.1 (by omega);(try split)<;>omega),.inl ⟨(by have h1_:=hmi.came he18 (by omega);have h2_:=hmo.g _ (List.mem_of_getElem? he18) (by omega);have h3_:=h2_.1 (by omega);(try split)<;>omega),(by have h1_:=hmi.came he18 (by omega);have h2_:=hmo.g _ (List.mem_of_getElem? he18) (by omega);have h3_:=h2_.1 (by omega);(try split)<;>omega)⟩⟩:(-1:Int)≤(if e18.a > pc then e18.a else pc)∧((sc):Int)≤1000∧((if e18.a > pc then e18.a else pc):Int) < (sc)∧Nd.MoI Z1.k.thr es (ke+1) (if e18.a > pc then e18.a else pc) sc)⟩ (by omega) ⟨H,H,(eqi (by omega)),trivial⟩ H H
      refine O.oc 19 H<|J.condF H (decide_eq_false (by have h4_:=(⟨(by have h1_:=hmi.came he18 (by omega);have h2_:=hmo.g _ (List.mem_of_getElem? he18) (by omega);have h3_:=h2_.1 (by omega);(try split)<;>omega),(by have h1_:=hmi.came he18 (by omega);have h2_:=hmo.g _ (List.mem_of_getElem? he18) (by omega);have h3_:=h2_.1 (by omega);(try split)<;>omega),(by have h1_:=hmi.came he18 (by omega);have h2_:=hmo.g _ (List.mem_of_getElem? he18) (by omega);have h3_:=h2_.1 (by omega);(try split)<;>omega),.inl ⟨(by have h1_:=hmi.came he18 (by omega);have h2_:=hmo.g _ (List.mem_of_getElem? he18) (by omega);have h3_:=h2_.1 (by omega);(try split)<;>omega),(by have h1_:=hmi.came he18 (by omega);have h2_:=hmo.g _ (List.mem_of_getElem? he18) (by omega);have h3_:=h2_.1 (by omega);(try split)<;>omega)⟩⟩:(-1:Int)≤(if e18.a > pc then e18.a else pc)∧((sc):Int)≤1000∧((if e18.a > pc then e18.a else pc):Int) < (sc)∧Nd.MoI Z1.k.thr es (ke+1) (if e18.a > pc then e18.a else pc) sc);exact Int.not_le.2 h4_.2.2.1))<|J.co 4 H<|O.p (Pu.add' H H (by omega)) H<|O.oc 2 H ?_
      exact J.lq ⟨ke+1,if e18.a > pc then e18.a else pc,sc⟩ [2,7,11,12] [] [2,3,4,5,6,7,8,9,10,11,12,13,14,15,16] ⟨by omega,(⟨(by have h1_:=hmi.came he18 (by omega);have h2_:=hmo.g _ (List.mem_of_getElem? he18) (by omega);have h3_:=h2_.1 (by omega);(try split)<;>omega),(by have h1_:=hmi.came he18 (by omega);have h2_:=hmo.g _ (List.mem_of_getElem? he18) (by omega);have h3_:=h2_.1 (by omega);(try split)<;>omega),(by have h1_:=hmi.came he18 (by omega);have h2_:=hmo.g _ (List.mem_of_getElem? he18) (by omega);have h3_:=h2_.1 (by omega);(try split)<;>omega),.inl ⟨(by have h1_:=hmi.came he18 (by omega);have h2_:=hmo.g _ (List.mem_of_getElem? he18) (by omega);have h3_:=h2_.1 (by omega);(try split)<;>omega),(by have h1_:=hmi.came he18 (by omega);have h2_:=hmo.g _ (List.mem_of_getElem? he18) (by omega);have h3_:=h2_.1 (by omega);(try split)<;>omega)⟩⟩:(-1:Int)≤(if e18.a > pc then e18.a else pc)∧((sc):Int)≤1000∧((if e18.a > pc then e18.a else pc):Int) < (sc)∧Nd.MoI Z1.k.thr es (ke+1) (if e18.a > pc then e18.a else pc) sc)⟩ (by dsimp only;omega) ⟨H,H,(eqi (by omega)),trivial⟩ H H
     refine J.co 5 H<|O.q (Qt.lv 0 A3 H H H) H<|O.oo 2 H<|O.kt 87 H (decide_eq_true p44)<|O.oo 1 H<|O.gz (Qt.lv 0 A3 H H H) H H<|O.oc 3 H ?_
     refine J.cd H (fun p53=>?_) (fun p53=>?_)
     ·
      refine J.co 3 H<|O.q (Qt.lv 0 A3 H H H) H<|O.p (Pu.min H H) H<|O.oo 5 H<|O.l (Lo.ca call13 (nw_Queue N Z1 hN hR1.1) [] H H (.own 4 H H (.own 6 H H .nil))) H ?_
      rintro v56 _ ⟨_,⟨o54,ho55,rfl⟩,rfl⟩
      have hoq:=ho55.length_eq
      refine O.oc 8 H ?_
      refine J.lo (X:=Nat) (fun kq=>kq≤o54.length) (fun kq=>[(17,.int .i64 (kq:Int))]) (fun kq=>[]) (fun kq=>o54.length-kq) 0 [2,7,9,10,11,12,14,15,16] [] [0,1,2,3,4,5,6,7,8,9,10,11,12,13,14,15,16] (by omega) ⟨(eqi (by omega)),trivial⟩ H H ?_
      rintro kq hkq
      try dsimp only at hkq
      refine J.co 4 H<|O.q (Qt.lv 1 A3 H H H) H<|O.oo 2 H ?_
      refine O.sd 101 H (fun p57=>?_) (fun p57=>?_)
      ·
       refine O.oo 1 H<|O.gz (Qt.lv 1 A3 H H H) H H<|O.oo 3 H ?_
       refine O.sd 106 H (fun p58=>?_) (fun p58=>?_)
       ·
        refine O.oo 2 H<|O.gz (Qt.lenM U52 H (Src.row 0 H)) H H<|O.oc 3 H ?_
        refine J.cd H (fun p59=>?_) (fun p59=>?_)
        ·
         refine J.cc 4 H<|J.drawStill Tryz.mixed (by kernel_rfl)<|S.r 2 H ?_
         obtain ⟨e60,he60⟩:=ex_at (l:=o54) (i:=kq) (by omega)
         refine S.q (Qt.ix U52 Z66 H (Src.row 0 H) he60 H (by rfl)) H<|S.r 1 H<|S.q (Qt.le A3 (Src.row 0 H) he60 1 H (by omega) H) H<|S.r 1 H<|S.q (Qt.lv 1 A3 H H H) H<|S.r 1 H<|S.endJ<|J.condF H (decide_eq_false (by have h_:=Nd.mo_evict hmo he18 (by omega) (by omega) ho55 he60;omega))<|J.co 4 H<|O.p (Pu.add' H H (by omega)) H<|O.oc 2 H ?_
         exact J.lq (kq+1) [2,7,9,10,11,12,14,15,16] [] [0,1,2,3,4,5,6,7,8,9,10,11,12,13,14,15,16] (by omega) (by omega) ⟨(eqi (by omega)),trivial⟩ H H
        refine J.cc 7 H<|J.condF H (decide_eq_false (by have h4_:=(⟨(by have h1_:=hmi.came he18 (by omega);have h2_:=hmo.g _ (List.mem_of_getElem? he18) (by omega);have h3_:=h2_.2 (by omega);(try split)<;>omega),(by have h1_:=hmi.came he18 (by omega);have h2_:=hmo.g _ (List.mem_of_getElem? he18) (by omega);have h3_:=h2_.2 (by omega);(try split)<;>omega),(by have h1_:=hmi.came he18 (by omega);have h2_:=hmo.g _ (List.mem_of_getElem? he18) (by omega);have h3_:=h2_.2 (by omega);(try split)<;>omega),.inl ⟨(by have h1_:=hmi.came he18 (by omega);have h2_:=hmo.g _ (List.mem_of_getElem? he18) (by omega);have h3_:=h2_.2 (by omega);(try split)<;>omega),(by have h1_:=hmi.came he18 (by omega);have h2_:=hmo.g _ (List.mem_of_getElem? he18) (by omega);have h3_:=h2_.2 (by omega);(try split)<;>omega)⟩⟩:(-1:Int)≤(pc)∧((if e18.a < sc then e18.a else sc):Int)≤1000∧((pc):Int) < (if e18.a < sc then e18.a else sc)∧Nd.MoI Z1.k.thr es (ke+1) pc (if e18.a < sc then e18.a else sc));exact Int.not_le.2 h4_.2.2.1))<|J.co 4 H<|O.p (Pu.add' H H (by omega)) H<|O.oc 2 H ?_
        exact J.lq ⟨ke+1,pc,if e18.a < sc then e18.a else sc⟩ [2,7,11,12] [] [2,3,4,5,6,7,8,9,10,11,12,13,14,15,16] ⟨by omega,(⟨(by have h1_:=hmi.came he18 (by omega);have h2_:=hmo.g _ (List.mem_of_getElem? he18) (by omega);have h3_:=h2_.2 (by omega);(try split)<;>omega),(by have h1_:=hmi.came he18 (by omega);have h2_:=hmo.g _ (List.mem_of_getElem? he18) (by omega);have h3_:=h2_.2 (by omega);(try split)<;>omega),(by have h1_:=hmi.came he18 (by omega);have h2_:=hmo.g _ (List.mem_of_getElem? he18) (by omega);have h3_:=h2_.2 (by omega);(try split)<;>omega),.inl ⟨(by have h1_:=hmi.came he18 (by omega);have h2_:=hmo.g _ (List.mem_of_getElem? he18) (by omega);have h3_:=h2_.2 (by omega);(try split)<;>omega),(by have h1_:=hmi.came he18 (by omega);have h2_:=hmo.g _ (List.mem_of_getElem? he18) (by omega);have h3_:=h2_.2 (by omega);(try split)<;>omega)⟩⟩:(-1:Int)≤(pc)∧((if e18.a < sc then e18.a else sc):Int)≤1000∧((pc):Int) < (if e18.a < sc then e18.a else sc)∧Nd.MoI Z1.k.thr es (ke+1) pc (if e18.a < sc then e18.a else sc))⟩ (by omega) ⟨H,H,(eqi (by omega)),trivial⟩ H H
       refine O.oc 14 H<|J.condF H (decide_eq_false (by have h4_:=(⟨(by have h1_:=hmi.came he18 (by omega);have h2_:=hmo.g _ (List.mem_of_getElem? he18) (by omega);have h3_:=h2_.2 (by omega);(try split)<;>omega),(by have h1_:=hmi.came he18 (by omega);have h2_:=hmo.g _ (List.mem_of_getElem? he18) (by omega);have h3_:=h2_.2 (by omega);(try split)<;>omega),(by have h1_:=hmi.came he18 (by omega);have h2_:=hmo.g _ (List.mem_of_getElem? he18) (by omega);have h3_:=h2_.2 (by omega);(try split)<;>omega),.inl ⟨(by have h1_:=hmi.came he18 (by omega);have h2_:=hmo.g _ (List.mem_of_getElem? he18) (by omega);have h3_:=h2_.2 (by omega);(try split)<;>omega),(by have h1_:=hmi.came he18 (by omega);have h2_:=hmo.g _ (List.mem_of_getElem? he18) (by omega);have h3_:=h2_.2 (by omega);(try split)<;>omega)⟩⟩:(-1:Int)≤(pc)∧((if e18.a < sc then e18.a else sc):Int)≤1000∧((pc):Int) < (if e18.a < sc then e18.a else sc)∧Nd.MoI Z1.k.thr es (ke+1) pc (if e18.a < sc then e18.a else sc));exact Int.not_le.2 h4_.2.2.1))<|J.co 4 H<|O.p (Pu.add' H H (by omega)) H<|O.oc 2 H ?_
       exact J.lq ⟨ke+1,pc,if e18.a < sc then e18.a else sc⟩ [2,7,11,12] [] [2,3,4,5,6,7,8,9,10,11,12,13,14,15,16] ⟨by omega,(⟨(by have h1_:=hmi.came he18 (by omega);have h2_:=hmo.g _ (List.mem_of_getElem? he18) (by omega);have h3_:=h2_.2 (by omega);(try split)<;>omega),(by have h1_:=hmi.came he18 (by omega);have h2_:=hmo.g _ (List.mem_of_getElem? he18) (by omega);have h3_:=h2_.2 (by omega);(try split)<;>omega),(by have h1_:=hmi.came he18 (by omega);have h2_:=hmo.g _ (List.mem_of_getElem? he18) (by omega);have h3_:=h2_.2 (by omega);(try split)<;>omega),.inl ⟨(by have h1_:=hmi.came he18 (by omega);have h2_:=hmo.g _ (List.mem_of_getElem? he18) (by omega);have h3_:=h2_.2 (by omega);(try split)<;>omega),(by have h1_:=hmi.came he18 (by omega);have h2_:=hmo.g _ (List.mem_of_getElem? he18) (by omega);have h3_:=h2_.2 (by omega);(try split)<;>omega)⟩⟩:(-1:Int)≤(pc)∧((if e18.a < sc then e18.a else sc):Int)≤1000∧((pc):Int) < (if e18.a < sc then e18.a else sc)∧Nd.MoI Z1.k.thr es (ke+1) pc (if e18.a < sc then e18.a else sc))⟩ (by omega) ⟨H,H,(eqi (by omega)),trivial⟩ H H
      refine O.oc 19 H<|J.condF H (decide_eq_false (by have h4_:=(⟨(by have h1_:=hmi.came he18 (by omega);have h2_:=hmo.g _ (List.mem_of_getElem? he18) (by omega);have h3_:=h2_.2 (by omega);(try split)<;>omega),(by have h1_:=hmi.came he18 (by omega);have h2_:=hmo.g _ (List.mem_of_getElem? he18) (by omega);have h3_:=h2_.2 (by omega);(try split)<;>omega),(by have h1_:=hmi.came he18 (by omega);have h2_:=hmo.g _ (List.mem_of_getElem? he18) (by omega);have h3_:=h2_.2 (by omega);(try split)<;>omega),.inl ⟨(by have h1_:=hmi.came he18 (by omega);have h2_:=hmo.g _ (List.mem_of_getElem? he18) (by omega);have h3_:=h2_.2 (by omega);(try split)<;>omega),(by have h1_:=hmi.came he18 (by omega);have h2_:=hmo.g _ (List.mem_of_getElem? he18) (by omega);have h3_:=h2_.2 (by omega);(try split)<;>omega)⟩⟩:(-1:Int)≤(pc)∧((if e18.a < sc then e18.a else sc):Int)≤1000∧((pc):Int) < (if e18.a < sc then e18.a else sc)∧Nd.MoI Z1.k.thr es (ke+1) pc (if e18.a < sc then e18.a else sc));exact Int.not_le.2 h4_.2.2.1))<|J.co 4 H<|O.p (Pu.add' H H (by omega)) H<|O.oc 2 H ?_
      exact J.lq ⟨ke+1,pc,if e18.a < sc then e18.a else sc⟩ [2,7,11,12] [] [2,3,4,5,6,7,8,9,10,11,12,13,14,15,16] ⟨by omega,(⟨(by have h1_:=hmi.came he18 (by omega);have h2_:=hmo.g _ (List.mem_of_getElem? he18) (by omega);have h3_:=h2_.2 (by omega);(try split)<;>omega),(by have h1_:=hmi.came he18 (by omega);have h2_:=hmo.g _ (List.mem_of_getElem? he18) (by omega);have h3_:=h2_.2 (by omega);(try split)<;>omega),(by have h1_:=hmi.came he18 (by omega);have h2_:=hmo.g _ (List.mem_of_getElem? he18) (by omega);have h3_:=h2_.2 (by omega);(try split)<;>omega),.inl ⟨(by have h1_:=hmi.came he18 (by omega);have h2_:=hmo.g _ (List.mem_of_getElem? he18) (by omega);have h3_:=h2_.2 (by omega);(try split)<;>omega),(by have h1_:=hmi.came he18 (by omega);have h2_:=hmo.g _ (List.mem_of_getElem? he18) (by omega);have h3_:=h2_.2 (by omega);(try split)<;>omega)⟩⟩:(-1:Int)≤(pc)∧((if e18.a < sc then e18.a else sc):Int)≤1000∧((pc):Int) < (if e18.a < sc then e18.a else sc)∧Nd.MoI Z1.k.thr es (ke+1) pc (if e18.a < sc then e18.a else sc))⟩ (by dsimp only;omega) ⟨H,H,(eqi (by omega)),trivial⟩ H H
     refine J.co 4 H<|O.l (Lo.ca call13 (nw_Queue N Z1 hN hR1.1) [] H H (.own 4 H H (.own 6 H H .nil))) H ?_
     rintro v63 _ ⟨_,⟨o61,ho62,rfl⟩,rfl⟩
     have hoq:=ho62.length_eq
     refine O.oc 8 H ?_
     refine J.lo (X:=Nat) (fun kq=>kq≤o61.length) (fun kq=>[(17,.int .i64 (kq:Int))]) (fun kq=>[]) (fun kq=>o61.length-kq) 0 [2,7,9,10,11,12,14,15,16] [] [0,1,2,3,4,5,6,7,8,9,10,11,12,13,14,15,16] (by omega) ⟨(eqi (by omega)),trivial⟩ H H ?_
     rintro kq hkq
     try dsimp only at hkq
     refine J.co 4 H<|O.q (Qt.lv 1 A3 H H H) H<|O.oo 2 H ?_
     refine O.sd 101 H (fun p64=>?_) (fun p64=>?_)
     ·
      refine O.oo 1 H<|O.gz (Qt.lv 1 A3 H H H) H H<|O.oo 3 H ?_
      refine O.sd 106 H (fun p65=>?_) (fun p65=>?_)
      ·
       refine O.oo 2 H<|O.gz (Qt.lenM U52 H (Src.row 0 H)) H H<|O.oc 3 H ?_
       refine J.cd H (fun p66=>?_) (fun p66=>?_)
       ·
        refine J.cc 4 H<|J.drawStill Tryz.mixed (by kernel_rfl)<|S.r 2 H ?_
        obtain ⟨e67,he67⟩:=ex_at (l:=o61) (i:=kq) (by omega)
        refine S.q (Qt.ix U52 Z66 H (Src.row 0 H) he67 H (by rfl)) H<|S.r 1 H<|S.q (Qt.le A3 (Src.row 0 H) he67 1 H (by omega) H) H<|S.r 1 H<|S.q (Qt.lv 1 A3 H H H) H<|S.r 1 H<|S.endJ<|J.condF H (decide_eq_false (by have h_:=Nd.mo_evict hmo he18 (by omega) (by omega) ho62 he67;omega))<|J.co 4 H<|O.p (Pu.add' H H (by omega)) H<|O.oc 2 H ?_
        exact J.lq (kq+1) [2,7,9,10,11,12,14,15,16] [] [0,1,2,3,4,5,6,7,8,9,10,11,12,13,14,15,16] (by omega) (by omega) ⟨(eqi (by omega)),trivial⟩ H H
       refine J.cc 7 H<|J.condF H (decide_eq_false (by have h4_:=(⟨(by omega),(by omega),(by omega),hmi.stay he18 (by omega) (by omega) (by omega)⟩:(-1:Int)≤(pc)∧((sc):Int)≤1000∧((pc):Int) < (sc)∧Nd.MoI Z1.k.thr es (ke+1) pc sc);exact Int.not_le.2 h4_.2.2.1))<|J.co 4 H<|O.p (Pu.add' H H (by omega)) H<|O.oc 2 H ?_
       exact J.lq ⟨ke+1,pc,sc⟩ [2,7,11,12] [] [2,3,4,5,6,7,8,9,10,11,12,13,14,15,16] ⟨by omega,(⟨(by omega),(by omega),(by omega),hmi.stay he18 (by omega) (by omega) (by omega)⟩:(-1:Int)≤(pc)∧((sc):Int)≤1000∧((pc):Int) < (sc)∧Nd.MoI Z1.k.thr es (ke+1) pc sc)⟩ (by omega) ⟨H,H,(eqi (by omega)),trivial⟩ H H
      refine O.oc 14 H<|J.condF H (decide_eq_false (by have h4_:=(⟨(by omega),(by omega),(by omega),hmi.stay he18 (by omega) (by omega) (by omega)⟩:(-1:Int)≤(pc)∧((sc):Int)≤1000∧((pc):Int) < (sc)∧Nd.MoI Z1.k.thr es (ke+1) pc sc);exact Int.not_le.2 h4_.2.2.1))<|J.co 4 H<|O.p (Pu.add' H H (by omega)) H<|O.oc 2 H ?_
      exact J.lq ⟨ke+1,pc,sc⟩ [2,7,11,12] [] [2,3,4,5,6,7,8,9,10,11,12,13,14,15,16] ⟨by omega,(⟨(by omega),(by omega),(by omega),hmi.stay he18 (by omega) (by omega) (by omega)⟩:(-1:Int)≤(pc)∧((sc):Int)≤1000∧((pc):Int) < (sc)∧Nd.MoI Z1.k.thr es (ke+1) pc sc)⟩ (by omega) ⟨H,H,(eqi (by omega)),trivial⟩ H H
     refine O.oc 19 H<|J.condF H (decide_eq_false (by have h4_:=(⟨(by omega),(by omega),(by omega),hmi.stay he18 (by omega) (by omega) (by omega)⟩:(-1:Int)≤(pc)∧((sc):Int)≤1000∧((pc):Int) < (sc)∧Nd.MoI Z1.k.thr es (ke+1) pc sc);exact Int.not_le.2 h4_.2.2.1))<|J.co 4 H<|O.p (Pu.add' H H (by omega)) H<|O.oc 2 H ?_
     exact J.lq ⟨ke+1,pc,sc⟩ [2,7,11,12] [] [2,3,4,5,6,7,8,9,10,11,12,13,14,15,16] ⟨by omega,(⟨(by omega),(by omega),(by omega),hmi.stay he18 (by omega) (by omega) (by omega)⟩:(-1:Int)≤(pc)∧((sc):Int)≤1000∧((pc):Int) < (sc)∧Nd.MoI Z1.k.thr es (ke+1) pc sc)⟩ (by dsimp only;omega) ⟨H,H,(eqi (by omega)),trivial⟩ H H
    refine O.oo 11 H<|O.q (Qt.lv 0 A3 H H H) H<|O.oo 2 H<|O.kf 87 H (decide_eq_false p44)<|O.oo 10 H<|O.l (Lo.ca call13 (nw_Queue N Z1 hN hR1.1) [] H H (.own 4 H H (.own 6 H H .nil))) H ?_
    rintro v70 _ ⟨_,⟨o68,ho69,rfl⟩,rfl⟩
    have hoq:=ho69.length_eq
    refine O.oc 8 H ?_
    refine J.lo (X:=Nat) (fun kq=>kq≤o68.length) (fun kq=>[(17,.int .i64 (kq:Int))]) (fun kq=>[]) (fun kq=>o68.length-kq) 0 [2,7,9,10,11,12,14,15,16] [] [0,1,2,3,4,5,6,7,8,9,10,11,12,13,14,15,16] (by omega) ⟨(eqi (by omega)),trivial⟩ H H ?_
    rintro kq hkq
    try dsimp only at hkq
    refine J.co 4 H<|O.q (Qt.lv 1 A3 H H H) H<|O.oo 2 H ?_
    refine O.sd 101 H (fun p71=>?_) (fun p71=>?_)
    ·
     refine O.oo 1 H<|O.gz (Qt.lv 1 A3 H H H) H H<|O.oo 3 H ?_
     refine O.sd 106 H (fun p72=>?_) (fun p72=>?_)
     ·
      refine O.oo 2 H<|O.gz (Qt.lenM U52 H (Src.row 0 H)) H H<|O.oc 3 H ?_
      refine J.cd H (fun p73=>?_) (fun p73=>?_)
      ·
       refine J.cc 4 H<|J.drawStill Tryz.mixed (by kernel_rfl)<|S.r 2 H ?_
       obtain ⟨e74,he74⟩:=ex_at (l:=o68) (i:=kq) (by omega)
       refine S.q (Qt.ix U52 Z66 H (Src.row 0 H) he74 H (by rfl)) H<|S.r 1 H<|S.q (Qt.le A3 (Src.row 0 H) he74 1 H (by omega) H) H<|S.r 1 H<|S.q (Qt.lv 1 A3 H H H) H<|S.r 1 H<|S.endJ<|J.condF H (decide_eq_false (by have h_:=Nd.mo_evict hmo he18 (by omega) (by omega) ho69 he74;omega))<|J.co 4 H<|O.p (Pu.add' H H (by omega)) H<|O.oc 2 H ?_
       exact J.lq (kq+1) [2,7,9,10,11,12,14,15,16] [] [0,1,2,3,4,5,6,7,8,9,10,11,12,13,14,15,16] (by omega) (by omega) ⟨(eqi (by omega)),trivial⟩ H H
      refine J.cc 7 H<|J.condF H (decide_eq_false (by have h4_:=(⟨(by omega),(by omega),(by omega),hmi.stay he18 (by omega) (by omega) (by omega)⟩:(-1:Int)≤(pc)∧((sc):Int)≤1000∧((pc):Int) < (sc)∧Nd.MoI Z1.k.thr es (ke+1) pc sc);exact Int.not_le.2 h4_.2.2.1))<|J.co 4 H<|O.p (Pu.add' H H (by omega)) H<|O.oc 2 H ?_
      exact J.lq ⟨ke+1,pc,sc⟩ [2,7,11,12] [] [2,3,4,5,6,7,8,9,10,11,12,13,14,15,16] ⟨by omega,(⟨(by omega),(by omega),(by omega),hmi.stay he18 (by omega) (by omega) (by omega)⟩:(-1:Int)≤(pc)∧((sc):Int)≤1000∧((pc):Int) < (sc)∧Nd.MoI Z1.k.thr es (ke+1) pc sc)⟩ (by dsimp only;omega) ⟨H,H,(eqi (by omega)),trivial⟩ H H
     refine O.oc 14 H<|J.condF H (decide_eq_false (by have h4_:=(⟨(by omega),(by omega),(by omega),hmi.stay he18 (by omega) (by omega) (by omega)⟩:(-1:Int)≤(pc)∧((sc):Int)≤1000∧((pc):Int) < (sc)∧Nd.MoI Z1.k.thr es (ke+1) pc sc);exact Int.not_le.2 h4_.2.2.1))<|J.co 4 H<|O.p (Pu.add' H H (by omega)) H<|O.oc 2 H ?_
     exact J.lq ⟨ke+1,pc,sc⟩ [2,7,11,12] [] [2,3,4,5,6,7,8,9,10,11,12,13,14,15,16] ⟨by omega,(⟨(by omega),(by omega),(by omega),hmi.stay he18 (by omega) (by omega) (by omega)⟩:(-1:Int)≤(pc)∧((sc):Int)≤1000∧((pc):Int) < (sc)∧Nd.MoI Z1.k.thr es (ke+1) pc sc)⟩ (by dsimp only;omega) ⟨H,H,(eqi (by omega)),trivial⟩ H H
    refine O.oc 19 H<|J.condF H (decide_eq_false (by have h4_:=(⟨(by omega),(by omega),(by omega),hmi.stay he18 (by omega) (by omega) (by omega)⟩:(-1:Int)≤(pc)∧((sc):Int)≤1000∧((pc):Int) < (sc)∧Nd.MoI Z1.k.thr es (ke+1) pc sc);exact Int.not_le.2 h4_.2.2.1))<|J.co 4 H<|O.p (Pu.add' H H (by omega)) H<|O.oc 2 H ?_
    exact J.lq ⟨ke+1,pc,sc⟩ [2,7,11,12] [] [2,3,4,5,6,7,8,9,10,11,12,13,14,15,16] ⟨by omega,(⟨(by omega),(by omega),(by omega),hmi.stay he18 (by omega) (by omega) (by omega)⟩:(-1:Int)≤(pc)∧((sc):Int)≤1000∧((pc):Int) < (sc)∧Nd.MoI Z1.k.thr es (ke+1) pc sc)⟩ (by dsimp only;omega) ⟨H,H,(eqi (by omega)),trivial⟩ H H
   refine J.co 4 H<|O.p (Pu.add' H H (by omega)) H<|O.oc 2 H ?_
   exact J.lq ⟨i+1,Z1,pc,sc⟩ [2,7] [3,4,5,6,7,8,9,10,11] [12,13,14] ⟨by omega,hR1.1,hR1.2.1,(hmi.stop (by omega)).1,(hmi.stop (by omega)).2,by omega,by omega⟩ (by dsimp only;omega) ⟨H,H,(eqi (by omega)),trivial⟩ H H
  refine J.co 3 H<|O.l (Lo.ca call10 l35_awake [] H H .nil) H ?_
  rintro _ _ ⟨_,⟨rfl,rfl⟩,rfl⟩
  refine O.oc 2 H ?_
  exact J.r0 H H ⟨H,H⟩
 obtain ⟨⟨hl10,hc10⟩,hacts⟩:=hfew h8
 have hl:l.length≤1000:=by omega
 have hc:∀ s∈l,s.cl.length≤1000:=fun s hs=>Nat.le_trans (hc10 s hs) (by decide)
 refine J.region<|O.q (Qt.lva 0 A25 Z25 H H H) H<|O.oo 1 H<|O.l (Lo.ca call11 (l35_beginNo b c r kn sv l self hsv hl hc h9) [] H H (.ro 0 H (.ro 1 H .nil))) H ?_
 rintro _ _ ⟨_,⟨rfl,rfl⟩,rfl⟩
 refine O.oo 15 H<|O.l (Lo.ca call10 l35_awake [] H H .nil) H ?_
 rintro _ _ ⟨_,⟨rfl,rfl⟩,rfl⟩
 refine O.oc 2 H ?_
 exact J.r0 H H ⟨H,H⟩
end Go.Proofs.YtohjlkjhpibkmaaGreatDoor
