/-
  Walks, printed by a program of mine.
-/
import Derived.KernelRfl
import Derived.Test.YtohjlkjhpibkmaaGreatDoorB27
set_option linter.unusedSimpArgs false
set_option linter.unusedVariables false
namespace Go.Proofs.YtohjlkjhpibkmaaGreatDoor
open Go Go.LK Go.Proofs.Tryz
set_option maxRecDepth 100000
set_option maxHeartbeats 4000000
theorem l35_One (b c r:Int) (kn:Nat) (sv:Value) (l:List Sg) (self:Int) (av:Value) (acts:List Ad) (hsv:Value.oneCell' sv=true):Tri prog 4 #[.agg #[.int .i64 b,.int .i64 c,.int .i64 r,.int .u64 (Nat.cast kn:Int),sv],.int .i64 self,av] [rd sv 14 (l.map Sg.cells),ros (l.map Sg.rd),rd av 24 (acts.map Ad.cells),var 1 (Nd.rnames.map vS) 348,var 0 (Nd.widths.map vI) 282] [] (fun v L'=>v=.bool true∧L'=[]):=by
 refine Tri.en func4 H ntmps4 H fun w0=>J.co 2 H<|O.l (Lo.bx H H) H ?_
 rintro _ _ ⟨g1,rfl,rfl⟩
 refine O.oo 5 H<|O.q (Qt.lva 0 A25 Z25 H H H) H<|O.oo 1 H<|O.l (Lo.ca call9 (l35_few b c r kn sv l av acts) [] H H (.ro 0 H (.ro 1 H (.ro 2 H .nil)))) H ?_
 rintro _ _ ⟨_,⟨q2,rfl,hf3,rfl⟩,rfl⟩
 have hfew:=hf3
 refine O.oc 2 H ?_
 refine J.cond H (fun h5=>?_) (fun h5=>?_)
 ·
  have h6:q2=false:=not_flip h5
  refine J.co 2 H<|O.l (Lo.ca call10 l35_awake [] H H .nil) H ?_
  rintro _ _ ⟨_,⟨rfl,rfl⟩,rfl⟩
  refine O.oc 2 H ?_
  exact J.r0 H H ⟨H,H⟩
 have h8:q2=true:=not_flip h5
 refine J.cc 2 H ?_
 refine by_bool (Nd.newB b c r l self) (fun h9=>?_) (fun h9=>?_)
 ·
  obtain ⟨⟨hl10,hc10⟩,hacts⟩:=hfew h8
  have hl:l.length≤1000:=by omega
  have hc:∀ s∈l,s.cl.length≤1000:=fun s hs=>Nat.le_trans (hc10 s hs) (by decide)
  refine J.region<|O.q (Qt.lva 0 A25 Z25 H H H) H<|O.oo 1 H<|O.l (Lo.ca call11 (l35_begin b c r kn sv l self hsv hl hc h9) [] H H (.ro 0 H (.ro 1 H .nil))) H ?_
  rintro _ _ ⟨_,⟨N,Z0,e,he,hN,hZ0,hini,hsvs,rfl,rfl⟩,rfl⟩
  refine O.oc 20 H<|J.nr 3 1 (([]:List Int).map encZ) H<|J.cc 4 H ?_
  refine J.lo (X:=Nat×Nd.Sx×Value×List Int) (fun (i,Z,V,pn0)=>i≤acts.length∧Z.Ok N∧Z.Lt i∧pn0.Perm (Nd.idz Z)) (fun (i,Z,V,pn0)=>[(9,V),(10,.int .i64 (i:Int))]) (fun (i,Z,V,pn0)=>[var N.n (Nd.nC N Z.now Z.ver Z.many Z.calls) 90,ct N Z.k,qu N Z.q,sl N Z.ps,mi N.jb Nd.jobV Z.jm,bun (Nd.nRows 3 Z.jm),wt 195 N.w Z.ws,se N Z.sn,var N.tb (Sh.tbC N.ttl Z.d) 215,row V 3 1 (pn0.map encZ)]) (fun (i,Z,V,pn0)=>acts.length-i) ⟨0,Z0,Value.slice none 0 0,[]⟩ [2,7] [1,2,3,4,5,6,7,8,9,0] [10,11,12] ⟨by omega,hZ0,hini.lt,by rw [hini.idz]⟩ ⟨H,(eqi (by rfl)),trivial⟩ H H ?_
  rintro ⟨i,Z,V,pn0⟩ ⟨hi,hS,hlt,hO⟩
  refine J.co 5 H<|O.q (Qt.lenM U26 H (Src.ro 2 H)) H<|O.oc 2 H ?_
  refine J.cd H (fun p11=>?_) (fun p11=>?_)
  ·
   refine J.co 8 H ?_
   obtain ⟨e12,he12⟩:=ex_at (l:=acts) (i:=i) (by omega)
   refine O.q (Qt.ix U26 sizeOf49 H (Src.ro 2 H) he12 H (by rfl)) H<|O.q (Qt.lea isAgg49 sizeOf49 (Src.ro 2 H) he12 0 H (by omega) H) H<|O.l (Lo.ca call12 (l35_Do N Z i e12 hN hS hlt (by omega)) [0,1,2,3,4,5,6,7,8,10,11] H H (.ro 3 H (.ro 4 H .nil))) H ?_
   rintro _ _ ⟨_,⟨Z1,E1,F1,es,fs,e1,hR1,rfl,rfl⟩,rfl⟩
   have hbal:=(Nd.one_fact hS hR1.2.2).2
   obtain ⟨pn2,hrun,hO2⟩:=Nd.one_run hO hS hR1.2.2
   have hlen:=Nd.do_len hN hS hR1.2.2
   have hOl:=Nd.idz_len hN hS hO
   refine O.oo 3 H<|O.l (Lo.al Y36 H) H ?_
   rintro _ _ ⟨g14,rfl,rfl⟩
   refine O.one (Src.row 1 H) (fun hV15=>?_)
   refine O.one (Src.row 2 H) (fun hV16=>?_)
   refine O.l0 (Lo.st 0 Z36 H H H H H (by simp only [List.all_cons,List.all_nil,Bool.and_true,hV15,hV16]<;>rfl) H) ?_
   rintro _ _ rfl
   refine O.oc 13 H ?_
   refine J.lo (X:=Nat×Nat) (fun (kf,ca)=>kf≤fs.length∧ca≤kf∧ca=Nd.cF (fs.take kf)) (fun (kf,ca)=>[(13,.int .i64 (ca:Int)),(15,.int .i64 (kf:Int))]) (fun (kf,ca)=>[]) (fun (kf,ca)=>fs.length-kf) ⟨0,0⟩ [2,7,9,10,11,14] [] [0,1,2,3,4,5,6,7,8,9,10,11,12,13,14,15] ⟨by omega,by omega,rfl⟩ ⟨(eqi (by rfl)),(eqi (by rfl)),trivial⟩ H H ?_
   rintro ⟨kf,ca⟩ ⟨hkf,hcf,hr⟩
   refine J.co 5 H<|O.q (Qt.lv 0 isAgg34 H H H) H<|O.q (Qt.lenM U34 H (Src.row 2 H)) H<|O.oc 2 H ?_
   refine J.cd H (fun p17=>?_) (fun p17=>?_)
   ·
    refine J.co 6 H<|O.q (Qt.lv 0 isAgg34 H H H) H<|O.oo 1 H ?_
    obtain ⟨e18,he18⟩:=ex_at (l:=fs) (i:=kf) (by omega)
    refine O.q (Qt.ix U34 sizeOf62 H (Src.row 2 H) he18 H (by rfl)) H<|O.oo 1 H<|O.q (Qt.le A3 (Src.row 2 H) he18 0 H (by omega) H) H<|O.oc 2 H ?_
    refine J.cd H (fun p19=>?_) (fun p19=>?_)
    ·
     refine J.co 2 H<|O.p (Pu.add' H H (by first|omega|(simp only [List.length_append,List.length_cons,List.length_nil,List.length_set];omega))) H<|O.oo 5 H<|O.p (Pu.add' H H (by omega)) H<|O.oc 2 H ?_
     exact J.lq ⟨kf+1,ca+1⟩ [2,7,9,10,11,14] [] [0,1,2,3,4,5,6,7,8,9,10,11,12,13,14,15] ⟨by omega,by omega,(by have h2_:=Nd.cF_next he18;rw [if_pos p19] at h2_;omega)⟩ (by dsimp only;omega) ⟨(eqi (by omega)),(eqi (by omega)),trivial⟩ H H
    refine J.co 4 H<|O.p (Pu.add' H H (by omega)) H<|O.oc 2 H ?_
    exact J.lq ⟨kf+1,ca⟩ [2,7,9,10,11,14] [] [0,1,2,3,4,5,6,7,8,9,10,11,12,13,14,15] ⟨by omega,by omega,(by have h2_:=Nd.cF_next he18;rw [if_neg p19] at h2_;omega)⟩ (by (try dsimp only);first|omega|(simp only [List.length_append,List.length_cons,List.length_nil];omega)|(obtain ⟨h1_,h2_,h3_⟩:=Nd.newB_iff.1 (by assumption:Nd.newB b c r l self=true);omega)) ⟨H,(eqi (by rfl)),trivial⟩ H H
   refine J.cc 3 H ?_
   have hr2:ca=Nd.cF fs:=by rw [hr,Nd.cF_all (by omega)]
   refine J.cc 4 H ?_
   refine J.lo (X:=Nat×Nat×Value×List Int) (fun (ke,ce,V1,pn1)=>ke≤es.length∧ce≤ke∧ce=Nd.cE (es.take ke)∧Nd.runO pn1 (es.drop ke)=some pn2∧pn1.length≤pn0.length+ke) (fun (ke,ce,V1,pn1)=>[(9,V1),(14,.int .i64 (ce:Int)),(16,.int .i64 (ke:Int))]) (fun (ke,ce,V1,pn1)=>[row V1 3 1 (pn1.map encZ)]) (fun (ke,ce,V1,pn1)=>es.length-ke) ⟨0,0,V,pn0⟩ [2,7,10,11,13] [14] [0,1,2,3,4,5,6,7,8,9,10,11,12,13,15] ⟨by omega,by omega,rfl,hrun,by omega⟩ ⟨H,(eqi (by rfl)),(eqi (by rfl)),trivial⟩ H H ?_
   rintro ⟨ke,ce,V1,pn1⟩ ⟨hke,hce,hm,hrun,hO1⟩
   refine J.co 5 H<|O.q (Qt.lv 1 A33 H H H) H<|O.q (Qt.lenM U33 H (Src.row 2 H)) H<|O.oc 2 H ?_
   refine J.cd H (fun p20=>?_) (fun p20=>?_)
   ·
    refine J.co 6 H<|O.q (Qt.lv 1 A33 H H H) H<|O.oo 1 H ?_
    obtain ⟨e21,he21⟩:=ex_at (l:=es) (i:=ke) (by omega)
    refine O.q (Qt.ix U33 Z51 H (Src.row 2 H) he21 H (by rfl)) H<|O.q (Qt.lea isAgg51 Z51 (Src.row 2 H) he21 0 H (by omega) H) H<|O.l (Lo.al Y51 H) H ?_
    rintro _ _ ⟨g22,rfl,rfl⟩
    refine O.l0 (Lo.st 0 Z51 H H H H H H H) ?_
    rintro _ _ rfl
    refine O.oc 2 H ?_
    obtain ⟨pn3,hst,hrn⟩:=Nd.runO_drop hrun he21
    refine J.co 3 H<|O.q (Qt.lv 0 A3 H H H) H<|O.l (Lo.ca call15 (l35_has V1 pn1 e21.id (by omega)) [] H H (.of 1 row_rd H H .nil)) H ?_
    rintro _ _ ⟨_,⟨rfl,rfl⟩,rfl⟩
    refine O.oo 5 H<|O.q (Qt.lv 0 A3 H H H) H<|O.oc 7 H ?_
    refine J.cd H (fun p24=>?_) (fun p24=>?_)
    ·
     refine J.cc 5 H<|J.condF H (decide_eq_false (Nd.stO_came hst p24).1)<|J.co 4 H<|O.q (Qt.lv 0 A3 H H H) H<|O.l (Lo.bm encZ [e21.id] U60 Z3 Y3 H H H (by kernel_rfl) H H) H ?_
     rintro V25 _ rfl
     refine O.l (Lo.am 2 N60 info3 H H H H H (Src.row 0 H) encZ.one (by first|omega|(simp only [List.length_append,List.length_cons,List.length_nil];omega)|(obtain ⟨h1_,h2_,h3_⟩:=Nd.newB_iff.1 (by assumption:Nd.newB b c r l self=true);omega)) (by first|omega|(simp only [List.length_append,List.length_cons,List.length_nil];omega)|(obtain ⟨h1_,h2_,h3_⟩:=Nd.newB_iff.1 (by assumption:Nd.newB b c r l self=true);omega))) H ?_
     rintro V26 _ rfl
     refine O.oo 6 H<|O.p (Pu.add' H H (by omega)) H<|O.oc 2 H ?_
     exact J.lq ⟨ke+1,ce,V26,pn1++([e21.id])⟩ [2,7,10,11,13] [2] [3,4,5,6,7,8,9,10,11,12,13,14,15,16,17] ⟨by omega,by omega,(by have h2_:=Nd.cE_next he21;rw [if_neg (by omega)] at h2_;omega),(by rw [←(Nd.stO_came hst p24).2];exact hrn),(by have h_:=Nd.stO_len hst;rw [(Nd.stO_came hst p24).2] at h_;omega)⟩ (by (try dsimp only);first|omega|(simp only [List.length_append,List.length_cons,List.length_nil];omega)|(obtain ⟨h1_,h2_,h3_⟩:=Nd.newB_iff.1 (by assumption:Nd.newB b c r l self=true);omega)) ⟨H,H,(eqi (by rfl)),trivial⟩ H H
    refine J.cc 6 H ?_
    refine J.cd H (fun p27=>?_) (fun p27=>?_)
    ·
     refine J.skip<|J.condT H (decide_eq_true p27)<|J.cc 6 H<|J.condF H (not_of_true (decide_eq_true (Nd.stO_gone hst (.inl p27)).1))<|J.co 5 H ?_
     refine O.q (Qt.lv 0 A3 H H H) H<|O.l (Lo.ca call16 (l35_without V1 pn1 e21.id (by omega)) [] H H (.of 1 row_rd H H .nil)) H ?_
     rintro v28 _ ⟨_,rfl,rfl⟩
     refine O.oo 5 H<|O.q (Qt.lv 1 A3 H H H) H<|O.oc 2 H<|J.condT H (decide_eq_true p27)<|J.co 2 H ?_
     refine O.p (Pu.add' H H (by first|omega|(simp only [List.length_append,List.length_cons,List.length_nil,List.length_set];omega))) H<|O.oo 6 H<|O.p (Pu.add' H H (by omega)) H<|O.oc 2 H ?_
     exact J.lq ⟨ke+1,ce+1,v28,Jb.without pn1 e21.id⟩ [2,7,10,11,13] [0] [3,4,5,6,7,8,9,10,11,12,13,14,15,16,17] ⟨by omega,by omega,(by have h2_:=Nd.cE_next he21;rw [if_pos (by omega)] at h2_;omega),(by rw [←(Nd.stO_gone hst (.inl p27)).2];exact hrn),(by have h_:=Nd.stO_len hst;rw [(Nd.stO_gone hst (.inl p27)).2] at h_;omega)⟩ (by (try dsimp only);first|omega|(simp only [List.length_append,List.length_cons,List.length_nil];omega)|(obtain ⟨h1_,h2_,h3_⟩:=Nd.newB_iff.1 (by assumption:Nd.newB b c r l self=true);omega)) ⟨H,(eqi (by rfl)),(eqi (by rfl)),trivial⟩ H H
    refine J.cc 4 H ?_
    refine J.cd H (fun p29=>?_) (fun p29=>?_)
    ·
     refine J.cc 6 H<|J.condF H (not_of_true (decide_eq_true (Nd.stO_gone hst (.inr p29)).1))<|J.co 5 H<|O.q (Qt.lv 0 A3 H H H) H<|O.l (Lo.ca call16 (l35_without V1 pn1 e21.id (by omega)) [] H H (.of 1 row_rd H H .nil)) H ?_
     rintro v30 _ ⟨_,rfl,rfl⟩
     refine O.oo 5 H<|O.q (Qt.lv 1 A3 H H H) H<|O.oc 2 H<|J.condF H (decide_eq_false p27)<|J.co 5 H ?_
     refine O.p (Pu.add' H H (by omega)) H<|O.oc 2 H ?_
     exact J.lq ⟨ke+1,ce,v30,Jb.without pn1 e21.id⟩ [2,7,10,11,13] [0] [3,4,5,6,7,8,9,10,11,12,13,14,15,16,17] ⟨by omega,by omega,(by have h2_:=Nd.cE_next he21;rw [if_neg (by omega)] at h2_;omega),(by rw [←(Nd.stO_gone hst (.inr p29)).2];exact hrn),(by have h_:=Nd.stO_len hst;rw [(Nd.stO_gone hst (.inr p29)).2] at h_;omega)⟩ (by (try dsimp only);first|omega|(simp only [List.length_append,List.length_cons,List.length_nil];omega)|(obtain ⟨h1_,h2_,h3_⟩:=Nd.newB_iff.1 (by assumption:Nd.newB b c r l self=true);omega)) ⟨H,H,(eqi (by rfl)),trivial⟩ H H
    refine J.cc 6 H ?_
    refine J.cd H (fun p31=>?_) (fun p31=>?_)
    ·
     refine J.skip<|J.condT H (decide_eq_true p31)<|J.co 5 H<|O.kf 115 H (not_of_true (decide_eq_true (Nd.stO_is hst (.inl p31)).1))<|O.oo 11 H ?_
     refine O.p (Pu.add' H H (by omega)) H<|O.oc 2 H ?_
     exact J.lq ⟨ke+1,ce,V1,pn1⟩ [2,7,10,11,13] [1] [2,3,4,5,6,7,8,9,10,11,12,13,14,15,16] ⟨by omega,by omega,(by have h2_:=Nd.cE_next he21;rw [if_neg (by omega)] at h2_;omega),(by rw [←(Nd.stO_is hst (.inl p31)).2];exact hrn),(by have h_:=Nd.stO_len hst;rw [(Nd.stO_is hst (.inl p31)).2] at h_;omega)⟩ (by (try dsimp only);first|omega|(simp only [List.length_append,List.length_cons,List.length_nil];omega)|(obtain ⟨h1_,h2_,h3_⟩:=Nd.newB_iff.1 (by assumption:Nd.newB b c r l self=true);omega)) ⟨H,H,(eqi (by rfl)),trivial⟩ H H
    refine J.cc 5 H ?_
    refine J.cd H (fun p32=>?_) (fun p32=>?_)
    ·
     refine J.skip<|J.condT H (decide_eq_true p32)<|J.co 5 H ?_
     refine O.sp 115 H (fun h33=>?_) (fun h33=>?_)
     ·
      have h34:(decide (e21.id∈pn1))=false:=not_flip h33
      have p35:=of_decide_eq_false h34
      refine O.oo 1 H<|O.gz (Qt.lv 0 A3 H H H) H H<|O.oc 3 H<|J.condF H (decide_eq_false (by omega))<|J.co 5 H ?_
      refine O.p (Pu.add' H H (by omega)) H<|O.oc 2 H ?_
      exact J.lq ⟨ke+1,ce,V1,pn1⟩ [2,7,10,11,13] [1] [2,3,4,5,6,7,8,9,10,11,12,13,14,15,16] ⟨by omega,by omega,(by have h2_:=Nd.cE_next he21;rw [if_neg (by omega)] at h2_;omega),(by rw [←(Nd.stO_misc hst (by omega) (by omega) (by omega) (by omega) (by omega) (by omega))];exact hrn),(by have h_:=Nd.stO_len hst;rw [(Nd.stO_misc hst (by omega) (by omega) (by omega) (by omega) (by omega) (by omega))] at h_;omega)⟩ (by (try dsimp only);first|omega|(simp only [List.length_append,List.length_cons,List.length_nil];omega)|(obtain ⟨h1_,h2_,h3_⟩:=Nd.newB_iff.1 (by assumption:Nd.newB b c r l self=true);omega)) ⟨H,H,(eqi (by rfl)),trivial⟩ H H
     have h36:(decide (e21.id∈pn1))=true:=not_flip h33
     have p37:=of_decide_eq_true h36
     refine O.oo 11 H<|O.p (Pu.add' H H (by omega)) H<|O.oc 2 H ?_
     exact J.lq ⟨ke+1,ce,V1,pn1⟩ [2,7,10,11,13] [1] [2,3,4,5,6,7,8,9,10,11,12,13,14,15,16] ⟨by omega,by omega,(by have h2_:=Nd.cE_next he21;rw [if_neg (by omega)] at h2_;omega),(by rw [←(Nd.stO_misc hst (by omega) (by omega) (by omega) (by omega) (by omega) (by omega))];exact hrn),(by have h_:=Nd.stO_len hst;rw [(Nd.stO_misc hst (by omega) (by omega) (by omega) (by omega) (by omega) (by omega))] at h_;omega)⟩ (by (try dsimp only);first|omega|(simp only [List.length_append,List.length_cons,List.length_nil];omega)|(obtain ⟨h1_,h2_,h3_⟩:=Nd.newB_iff.1 (by assumption:Nd.newB b c r l self=true);omega)) ⟨H,H,(eqi (by rfl)),trivial⟩ H H
    refine J.cc 5 H ?_
    refine J.cd H (fun p38=>?_) (fun p38=>?_)
    ·
     refine J.skip<|J.condT H (decide_eq_true p38)<|J.co 5 H<|O.kf 115 H (not_of_true (decide_eq_true (Nd.stO_is hst (.inr (.inr p38))).1))<|O.oo 11 H ?_
     refine O.p (Pu.add' H H (by omega)) H<|O.oc 2 H ?_
     exact J.lq ⟨ke+1,ce,V1,pn1⟩ [2,7,10,11,13] [1] [2,3,4,5,6,7,8,9,10,11,12,13,14,15,16] ⟨by omega,by omega,(by have h2_:=Nd.cE_next he21;rw [if_neg (by omega)] at h2_;omega),(by rw [←(Nd.stO_is hst (.inr (.inr p38))).2];exact hrn),(by have h_:=Nd.stO_len hst;rw [(Nd.stO_is hst (.inr (.inr p38))).2] at h_;omega)⟩ (by (try dsimp only);first|omega|(simp only [List.length_append,List.length_cons,List.length_nil];omega)|(obtain ⟨h1_,h2_,h3_⟩:=Nd.newB_iff.1 (by assumption:Nd.newB b c r l self=true);omega)) ⟨H,H,(eqi (by rfl)),trivial⟩ H H
    refine J.cc 4 H ?_
    refine J.cd H (fun p39=>?_) (fun p39=>?_)
    ·
     refine J.co 5 H<|O.kf 115 H (not_of_true (decide_eq_true (Nd.stO_is hst (.inr (.inl p39))).1))<|O.oo 11 H<|O.p (Pu.add' H H (by omega)) H<|O.oc 2 H ?_
     exact J.lq ⟨ke+1,ce,V1,pn1⟩ [2,7,10,11,13] [1] [2,3,4,5,6,7,8,9,10,11,12,13,14,15,16] ⟨by omega,by omega,(by have h2_:=Nd.cE_next he21;rw [if_neg (by omega)] at h2_;omega),(by rw [←(Nd.stO_is hst (.inr (.inl p39))).2];exact hrn),(by have h_:=Nd.stO_len hst;rw [(Nd.stO_is hst (.inr (.inl p39))).2] at h_;omega)⟩ (by (try dsimp only);first|omega|(simp only [List.length_append,List.length_cons,List.length_nil];omega)|(obtain ⟨h1_,h2_,h3_⟩:=Nd.newB_iff.1 (by assumption:Nd.newB b c r l self=true);omega)) ⟨H,H,(eqi (by rfl)),trivial⟩ H H
    refine J.co 5 H<|O.p (Pu.add' H H (by omega)) H<|O.oc 2 H ?_
    exact J.lq ⟨ke+1,ce,V1,pn1⟩ [2,7,10,11,13] [1] [2,3,4,5,6,7,8,9,10,11,12,13,14,15,16] ⟨by omega,by omega,(by have h2_:=Nd.cE_next he21;rw [if_neg (by omega)] at h2_;omega),(by rw [←(Nd.stO_misc hst (by omega) (by omega) (by omega) (by omega) (by omega) (by omega))];exact hrn),(by have h_:=Nd.stO_len hst;rw [(Nd.stO_misc hst (by omega) (by omega) (by omega) (by omega) (by omega) (by omega))] at h_;omega)⟩ (by (try dsimp only);first|omega|(simp only [List.length_append,List.length_cons,List.length_nil];omega)|(obtain ⟨h1_,h2_,h3_⟩:=Nd.newB_iff.1 (by assumption:Nd.newB b c r l self=true);omega)) ⟨H,H,(eqi (by rfl)),trivial⟩ H H
   refine J.cc 2 H ?_
   have hrm:(ca:Int)=(ce:Int):=by rw [hr2,hm,Nd.cE_all (by omega)];exact congrArg Int.ofNat hbal.symm
   obtain rfl:pn1=pn2:=by rw [List.drop_eq_nil_of_le (by omega)] at hrun;exact Option.some.inj hrun
   refine J.co 2 H<|O.l (Lo.ca call13 (nw_Queue N Z1 hN hR1.1) [] H H (.own 4 H H (.own 6 H H .nil))) H ?_
   rintro v42 _ ⟨_,⟨o40,ho41,rfl⟩,rfl⟩
   have hoq:=ho41.length_eq
   refine O.oo 1 H<|O.l (Lo.ca call14 (nw_Jobs N Z1 hN hR1.1) [] H H (.own 5 H H (.own 8 H H (.own 9 H H (.own 10 H H .nil))))) H ?_
   rintro v45 _ ⟨_,⟨jl43,hj44,rfl⟩,rfl⟩
   have hjq:=congrArg List.length hj44
   rw [List.length_map] at hjq
   refine O.oc 5 H ?_
   have hol_:=Nd.one_len hO2 ho41 hj44
   refine J.co 5 H<|O.kf 127 H (decide_eq_false (by rw [hrm];exact fun h_=>h_ rfl))<|O.oo 1 H<|O.gz (Qt.lenM U52 H (Src.row 1 H)) H H<|O.oo 1 H ?_
   refine O.gz (Qt.lenM U57 H (Src.row 0 H)) H H<|O.gz (Pu.qt (Pu.add' H H (by first|omega|(simp only [List.length_append,List.length_cons,List.length_nil,List.length_set];omega)))) H H<|O.oo 1 H<|O.gz (Qt.lenM U60 H (Src.row 2 H)) H H<|O.oc 3 H ?_
   refine J.condF H (decide_eq_false (by have h_:=Nd.one_len hO2 ho41 hj44;omega))<|J.cc 7 H ?_
   refine J.lo (X:=Nat) (fun kq=>kq≤o40.length) (fun kq=>[(21,.int .i64 (kq:Int))]) (fun kq=>[]) (fun kq=>o40.length-kq) 0 [2,7,9,10,19,20] [] [0,1,2,3,4,5,6,7,8,9,10,11,12,13,14,15,16,17] (by omega) ⟨(eqi (by omega)),trivial⟩ H H ?_
   rintro kq hkq
   try dsimp only at hkq
   refine J.co 5 H<|O.q (Qt.lenM U52 H (Src.row 1 H)) H<|O.oc 2 H ?_
   refine J.cd H (fun p46=>?_) (fun p46=>?_)
   ·
    refine J.co 8 H ?_
    obtain ⟨e47,he47⟩:=ex_at (l:=o40) (i:=kq) (by omega)
    refine O.q (Qt.ix U52 Z66 H (Src.row 1 H) he47 H (by rfl)) H<|O.oo 1 H<|O.q (Qt.le A3 (Src.row 1 H) he47 0 H (by omega) H) H<|O.l (Lo.ca call15 (l35_has V1 pn1 e47.id (by omega)) [] H H (.of 2 row_rd H H .nil)) H ?_
    rintro _ _ ⟨_,⟨rfl,rfl⟩,rfl⟩
    refine O.oc 2 H<|J.condF H (not_of_true (decide_eq_true (Nd.one_mem hO2 ho41 he47)))<|J.co 4 H<|O.p (Pu.add' H H (by omega)) H<|O.oc 2 H ?_
    exact J.lq (kq+1) [2,7,9,10,19,20] [] [0,1,2,3,4,5,6,7,8,9,10,11,12,13,14,15,16,17] (by omega) (by omega) ⟨(eqi (by omega)),trivial⟩ H H
   refine J.cc 6 H ?_
   refine J.lo (X:=Nat) (fun kj=>kj≤jl43.length) (fun kj=>[(22,.int .i64 (kj:Int))]) (fun kj=>[]) (fun kj=>jl43.length-kj) 0 [2,7,9,10,20] [] [0,1,2,3,4,5,6,7,8,9,10,11,12,13,14,15,16,17] (by omega) ⟨(eqi (by omega)),trivial⟩ H H ?_
   rintro kj hkj
   try dsimp only at hkj
   refine J.co 5 H<|O.q (Qt.lenM U57 H (Src.row 0 H)) H<|O.oc 2 H ?_
   refine J.cd H (fun p49=>?_) (fun p49=>?_)
   ·
    refine J.co 8 H ?_
    obtain ⟨e50,he50⟩:=ex_at (l:=jl43) (i:=kj) (by omega)
    refine O.q (Qt.ix U57 Z68 H (Src.row 0 H) he50 H (by rfl)) H<|O.oo 2 H<|O.q (Qt.le A3 (Src.row 0 H) he50 0 H (by omega) H) H<|O.l (Lo.ca call15 (l35_has V1 pn1 e50.x.id (by omega)) [] H H (.of 2 row_rd H H .nil)) H ?_
    rintro _ _ ⟨_,⟨rfl,rfl⟩,rfl⟩
    refine O.oc 2 H<|J.condF H (not_of_true (decide_eq_true (Nd.one_job hO2 hj44 he50)))<|J.co 4 H<|O.p (Pu.add' H H (by omega)) H<|O.oc 2 H ?_
    exact J.lq (kj+1) [2,7,9,10,20] [] [0,1,2,3,4,5,6,7,8,9,10,11,12,13,14,15,16,17] (by omega) (by omega) ⟨(eqi (by omega)),trivial⟩ H H
   refine J.co 4 H<|O.p (Pu.add' H H (by omega)) H<|O.oc 2 H ?_
   exact J.lq ⟨i+1,Z1,V1,pn1⟩ [2,7] [6,7,8,9,10,11,12,13,14,2] [15,16,17] ⟨by omega,hR1.1,hR1.2.1,hO2⟩ (by (try dsimp only);first|omega|(simp only [List.length_append,List.length_cons,List.length_nil];omega)|(obtain ⟨h1_,h2_,h3_⟩:=Nd.newB_iff.1 (by assumption:Nd.newB b c r l self=true);omega)) ⟨H,(eqi (by rfl)),trivial⟩ H H
  refine J.co 3 H<|O.l (Lo.ca call10 l35_awake [] H H .nil) H ?_
  rintro _ _ ⟨_,⟨rfl,rfl⟩,rfl⟩
  refine O.oc 2 H ?_
  exact J.r0 H H ⟨H,H⟩
 obtain ⟨⟨hl10,hc10⟩,hacts⟩:=hfew h8
 have hl:l.length≤1000:=by omega
 have hc:∀ s∈l,s.cl.length≤1000:=fun s hs=>Nat.le_trans (hc10 s hs) (by decide)
 refine J.region<|O.q (Qt.lva 0 A25 Z25 H H H) H<|O.oo 1 H<|O.l (Lo.ca call11 (l35_beginNo b c r kn sv l self hsv hl hc h9) [] H H (.ro 0 H (.ro 1 H .nil))) H ?_
 rintro _ _ ⟨_,⟨rfl,rfl⟩,rfl⟩
 refine O.oo 15 H<|O.l (Lo.ca call10 l35_awake [] H H .nil) H ?_
 rintro _ _ ⟨_,⟨rfl,rfl⟩,rfl⟩
 refine O.oc 2 H ?_
 exact J.r0 H H ⟨H,H⟩
end Go.Proofs.YtohjlkjhpibkmaaGreatDoor
