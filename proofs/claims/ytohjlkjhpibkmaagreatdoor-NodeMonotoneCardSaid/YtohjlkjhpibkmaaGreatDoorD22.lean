/-
  Walks, printed by a program of mine.
-/
import Derived.KernelRfl
import Derived.Test.YtohjlkjhpibkmaaGreatDoorD20
import Derived.Test.YtohjlkjhpibkmaaGreatDoorD16
import Derived.Test.YtohjlkjhpibkmaaGreatDoorD03
import Derived.Test.YtohjlkjhpibkmaaGreatDoorD21
set_option linter.unusedSimpArgs false
set_option linter.unusedVariables false
namespace Go.Proofs.YtohjlkjhpibkmaaGreatDoor
open Go Go.LK Go.Proofs.Tryz
set_option maxRecDepth 100000
set_option maxHeartbeats 4000000
theorem s_Index (sv:Value) (l:List Int) (x:Int) (hl:l.length≤100000):Tri prog 280 #[sv,.int .i64 x] [rd sv 1 (l.map encZ)] [] (fun v L'=>∃ k,v=.int .i64 k∧Jb.IdxP l x k∧L'=[]):=by
 refine Tri.en func280 H ntmps280 H fun w0=>J.co 8 H<|O.q (Qt.lenM U60 H (Src.ro 0 H)) H<|O.oc 3 H ?_
 refine J.lo (X:=Nat) (fun k=>k≤l.length∧∀ j,j < k→∀ y,l[j]?=some y→y≠x) (fun k=>[(8,.int .i64 (k:Int))]) (fun k=>[]) (fun k=>l.length-k) 0 [0,1,7] [] [] ⟨by omega,fun j hj=>absurd hj (Nat.not_lt_zero _)⟩ ⟨(eqi (by omega)),trivial⟩ H H ?_
 rintro k ⟨hk,hno⟩
 refine J.cc 5 H ?_
 refine J.cd H (fun p1=>?_) (fun p1=>?_)
 ·
  refine J.co 13 H ?_
  obtain ⟨e2,he2⟩:=ex_at (l:=l) (i:=k) (by omega)
  refine O.q (Qt.ix U60 Z3 H (Src.ro 0 H) he2 H (by rfl)) H<|O.q (Qt.le A3 (Src.ro 0 H) he2 0 H (by omega) H) H<|O.oc 2 H ?_
  refine J.cd H (fun p3=>?_) (fun p3=>?_)
  ·
   refine J.cc 5 H ?_
   exact J.r0 H H ⟨_,H,Jb.idx_yes hno he2 (by omega),H⟩
  refine J.co 3 H<|O.p (Pu.add' H H (by omega)) H<|O.oc 2 H ?_
  exact J.lq (k+1) [0,1,7] [] [] ⟨by omega,Jb.idx_next hno he2 (by omega)⟩ (by omega) ⟨(eqi (by omega)),trivial⟩ H H
 refine J.cc 5 H ?_
 exact J.r0 H H ⟨_,H,Jb.idx_no hno (by omega),H⟩
theorem s_Contains (sv:Value) (l:List Int) (x:Int) (hl:l.length≤100000):Tri prog 346 #[sv,.int .i64 x] [rd sv 1 (l.map encZ)] [] (fun v L'=>v=.bool (decide (x∈l))∧L'=[]):=by
 refine Tri.en func346 H ntmps346 H fun w0=>J.co 8 H<|O.l (Lo.ca call280 (s_Index sv l x (by omega)) [] H H (.ro 0 H .nil)) H ?_
 rintro _ _ ⟨_,⟨k1,rfl,hx2,rfl⟩,rfl⟩
 refine O.oc 3 H ?_
 exact J.r0 H H ⟨(by simp only [vOf];congr 1;rw [decide_eq_decide];exact Jb.idx_mem hx2),H⟩
theorem g_called (lv:Value) (l:List Sg) (f:Int) (hl:l.length≤1000) (hc:∀ s∈l,s.cl.length≤1000):Tri prog 300 #[lv,.int .i64 f] [rd lv 14 (l.map Sg.cells),ros (l.map Sg.rd)] [] (fun v L'=>L'=[row v 3 1 ((Gr.called (gOf l) f).map encZ)]):=by
 have hgl:=gOf_len (l:=l)
 refine Tri.en func300 H ntmps300 H fun w0=>J.co 14 H ?_
 refine O.sd 10 H (fun p1=>?_) (fun p1=>?_)
 ·
  refine O.oc 12 H<|J.nr 3 1 (([]:List Int).map encZ) H ?_
  exact J.r1 [0] H H H (congrArg (fun (z:List Int)=>([row (Value.slice none 0 0) 3 1 (z.map encZ)]:List Sp)) (show ([]:List Int)=Gr.called (gOf l) f from (Gr.called_out (by omega)).symm))
 refine O.oo 2 H<|O.gz (Qt.lenM U23 H (Src.ro 0 H)) H H<|O.oc 3 H ?_
 refine J.cd H (fun p2=>?_) (fun p2=>?_)
 ·
  refine J.cc 5 H<|J.nr 3 1 (([]:List Int).map encZ) H ?_
  exact J.r1 [0] H H H (congrArg (fun (z:List Int)=>([row (Value.slice none 0 0) 3 1 (z.map encZ)]:List Sp)) (show ([]:List Int)=Gr.called (gOf l) f from (Gr.called_out (by omega)).symm))
 refine J.cc 3 H ?_
 obtain ⟨e3,he3⟩:=ex_at (l:=l) (i:=(f).toNat) (by omega)
 refine J.ros 1 H (A:=rd e3.cv 4 (e3.cl.map Cl.cells)) (List.mem_map.2 ⟨e3,List.mem_of_getElem? he3,H⟩) ?_
 have hcl:=hc _ (List.mem_of_getElem? he3)
 have hcm:(e3.cl.map Cl.to).length=e3.cl.length:=List.length_map _
 refine J.co 3 H<|O.q (Qt.ix U23 Z56 H (Src.ro 0 H) he3 H (by omega)) H<|O.oo 1 H<|O.q (Qt.le A54 (Src.ro 0 H) he3 13 H (by omega) H) H<|O.q (Qt.lenM U54 H (Src.ro 2 H)) H<|O.oc 3 H<|J.nilRow 3 1 ?_
 refine J.lo (X:=Nat×Value×List Int) (fun (k,V,o)=>k≤e3.cl.length∧o=Gr.calledK l.length (e3.cl.map Cl.to) k∧o.length≤k) (fun (k,V,o)=>[(5,V),(23,.int .i64 (k:Int))]) (fun (k,V,o)=>[row V 3 1 (o.map encZ)]) (fun (k,V,o)=>e3.cl.length-k) ⟨0,Value.slice none 0 0,[]⟩ [0,4,21,22] [0] [] ⟨by omega,rfl,by simp⟩ ⟨H,(eqi (by omega)),trivial⟩ H H ?_
 rintro ⟨k,V,o⟩ ⟨hk,hst,hlen⟩
 refine J.cc 5 H ?_
 refine J.cd H (fun p4=>?_) (fun p4=>?_)
 ·
  refine J.co 5 H ?_
  obtain ⟨e5,he5⟩:=ex_at (l:=e3.cl) (i:=k) (by omega)
  refine O.q (Qt.ix U54 Z136 H (Src.ro 2 H) he5 H (by rfl)) H<|O.q (Qt.lea isAgg136 Z136 (Src.ro 2 H) he5 0 H (by omega) H) H<|O.l (Lo.al Y136 H) H ?_
  rintro _ _ ⟨g6,rfl,rfl⟩
  refine O.l0 (Lo.st 0 Z136 H H H H H H H) ?_
  rintro _ _ rfl
  refine O.oo 4 H<|O.q (Qt.lv 0 A3 H H H) H<|O.oo 2 H ?_
  refine O.sd 30 H (fun p7=>?_) (fun p7=>?_)
  ·
   refine O.oo 1 H<|O.gz (Qt.lv 0 A3 H H H) H H<|O.oo 1 H<|O.gz (Qt.lenM U23 H (Src.ro 0 H)) H H<|O.oo 3 H ?_
   refine O.sd 37 H (fun p8=>?_) (fun p8=>?_)
   ·
    refine O.oo 2 H<|O.gz (Qt.lv 0 A3 H H H) H H<|O.gy (Lo.ca call346 (s_Contains V o e5.to (by omega)) [] H H (.of 1 row_rd H H .nil)) H H ?_
    rintro _ _ ⟨_,⟨rfl,rfl⟩,rfl⟩
    refine O.oc 3 H ?_
    refine J.cond H (fun h10=>?_) (fun h10=>?_)
    ·
     have h11:(decide (e5.to∈o))=false:=not_flip h10
     have p12:=of_decide_eq_false h11
     refine J.co 3 H<|O.q (Qt.lv 0 A3 H H H) H<|O.l (Lo.bm encZ [e5.to] U60 Z3 Y3 H H H (by kernel_rfl) H H) H ?_
     rintro V13 _ rfl
     refine O.l (Lo.am 2 N60 info3 H H H H H (Src.row 0 H) encZ.one (by first|omega|(simp only [List.length_append,List.length_cons,List.length_nil];omega)) (by first|omega|(simp only [List.length_append,List.length_cons,List.length_nil];omega))) H ?_
     rintro V14 _ rfl
     refine O.oo 4 H<|O.p (Pu.add' H H (by omega)) H<|O.oc 2 H ?_
     exact J.lq ⟨k+1,V14,o++([e5.to])⟩ [0,4,21,22] [2] [] ⟨by omega,(by rw [hst];first|exact (Gr.calledK_yes (to_at he5) (by omega) (by omega) (by rw [←hst];assumption)).symm|exact (Gr.calledK_no (to_at he5) (fun h_=>by first|(have:=h_.1;omega)|(have:=h_.2.1;omega)|(rw [←hst] at h_;exact h_.2.2 (by assumption)))).symm),(by first|omega|(simp only [List.length_append,List.length_cons,List.length_nil];omega))⟩ (by dsimp only;omega) ⟨H,(eqi (by omega)),trivial⟩ H H
    have h15:(decide (e5.to∈o))=true:=not_flip h10
    have p16:=of_decide_eq_true h15
    refine J.co 3 H<|O.p (Pu.add' H H (by omega)) H<|O.oc 2 H ?_
    exact J.lq ⟨k+1,V,o⟩ [0,4,21,22] [1] [] ⟨by omega,(by rw [hst];first|exact (Gr.calledK_yes (to_at he5) (by omega) (by omega) (by rw [←hst];assumption)).symm|exact (Gr.calledK_no (to_at he5) (fun h_=>by first|(have:=h_.1;omega)|(have:=h_.2.1;omega)|(rw [←hst] at h_;exact h_.2.2 (by assumption)))).symm),(by omega)⟩ (by dsimp only;omega) ⟨H,(eqi (by omega)),trivial⟩ H H
   refine O.oo 11 H<|O.p (Pu.add' H H (by omega)) H<|O.oc 2 H ?_
   exact J.lq ⟨k+1,V,o⟩ [0,4,21,22] [1] [] ⟨by omega,(by rw [hst];first|exact (Gr.calledK_yes (to_at he5) (by omega) (by omega) (by rw [←hst];assumption)).symm|exact (Gr.calledK_no (to_at he5) (fun h_=>by first|(have:=h_.1;omega)|(have:=h_.2.1;omega)|(rw [←hst] at h_;exact h_.2.2 (by assumption)))).symm),(by omega)⟩ (by dsimp only;omega) ⟨H,(eqi (by omega)),trivial⟩ H H
  refine O.oo 18 H<|O.p (Pu.add' H H (by omega)) H<|O.oc 2 H ?_
  exact J.lq ⟨k+1,V,o⟩ [0,4,21,22] [1] [] ⟨by omega,(by rw [hst];first|exact (Gr.calledK_yes (to_at he5) (by omega) (by omega) (by rw [←hst];assumption)).symm|exact (Gr.calledK_no (to_at he5) (fun h_=>by first|(have:=h_.1;omega)|(have:=h_.2.1;omega)|(rw [←hst] at h_;exact h_.2.2 (by assumption)))).symm),(by omega)⟩ (by dsimp only;omega) ⟨H,(eqi (by omega)),trivial⟩ H H
 refine J.cc 6 H ?_
 exact J.r1 [0] H H H (congrArg (fun (z:List Int)=>([row V 3 1 (z.map encZ)]:List Sp)) (show o=Gr.called (gOf l) f from (by rw [hst];have h_:=Gr.called_in (g:=(gOf l)) (k:=k) (cl:=(e3.cl.map Cl.to)) (f:=f) (by omega) (by omega) (gOf_at he3) (by omega);rw [hgl] at h_;exact h_)))
theorem g_waits (lv:Value) (l:List Sg) (hl:l.length≤1000) (hc:∀ s∈l,s.cl.length≤1000):Tri prog 299 #[lv] [rd lv 14 (l.map Sg.cells),ros (l.map Sg.rd)] [] (fun v L'=>L'=[row v 3 1 ((Gr.leftL (gOf l) []).map encZ)]):=by
 have hgl:=gOf_len (l:=l)
 refine Tri.en func299 H ntmps299 H fun w0=>J.co 7 H<|O.q (Qt.lenM U23 H (Src.ro 0 H)) H<|O.l (Lo.makeSliceN (z:=(0:Int)) (f:=encZ) (m:=l.length) (s:=1) (bytes:=8) U60 (fun w=>run_typeInfo w (by exact (info3).1)) (by exact (info3).2.2.2) Z3 Y3 H H (by omega) (by omega) (by decide) H H (by decide) H) H ?_
 rintro V1 _ rfl
 refine O.oo 6 H<|O.q (Qt.lenM U23 H (Src.ro 0 H)) H<|O.oc 3 H ?_
 refine J.lo (X:=Nat×List Int) (fun (k,w)=>k≤l.length∧w=Gr.waitQ (gOf l) k 0) (fun (k,w)=>[(12,.int .i64 (k:Int))]) (fun (k,w)=>[row V1 3 1 (w.map encZ)]) (fun (k,w)=>l.length-k) ⟨0,List.replicate l.length (0:Int)⟩ [0,2,3,11] [0] [] ⟨by omega,by rw [←hgl];exact Gr.waitQ_zero⟩ ⟨(eqi (by omega)),trivial⟩ H H ?_
 rintro ⟨k,w⟩ ⟨hk,hw⟩
 refine J.cc 5 H ?_
 refine J.cd H (fun p2=>?_) (fun p2=>?_)
 ·
  refine J.co 12 H<|O.l (Lo.ca call300 (g_called lv l (k:Int) hl hc) [] H H (.ro 0 H (.ro 1 H .nil))) H ?_
  rintro v3 _ ⟨_,rfl,rfl⟩
  refine O.q (Qt.lenM U60 H (Src.row 0 H)) H<|O.oc 3 H ?_
  refine J.lo (X:=Nat×List Int) (fun (q,w2)=>q≤(Gr.called (gOf l) (k:Int)).length∧w2=Gr.waitQ (gOf l) k q) (fun (q,w2)=>[(19,.int .i64 (q:Int))]) (fun (q,w2)=>[row V1 3 1 (w2.map encZ)]) (fun (q,w2)=>(Gr.called (gOf l) (k:Int)).length-q) ⟨0,w⟩ [0,2,3,11,12,17,18] [1] [0] ⟨by omega,hw⟩ ⟨(eqi (by omega)),trivial⟩ H H ?_
  rintro ⟨q,w2⟩ ⟨hq,hw2⟩
  refine J.cc 5 H ?_
  refine J.cd H (fun p4=>?_) (fun p4=>?_)
  ·
   refine J.co 5 H ?_
   obtain ⟨e5,he5⟩:=ex_at (l:=(Gr.called (gOf l) (k:Int))) (i:=q) (by omega)
   refine O.q (Qt.ix U60 Z3 H (Src.row 1 H) he5 H (by rfl)) H<|O.q (Qt.le A3 (Src.row 1 H) he5 0 H (by omega) H) H<|O.oc 2 H ?_
   obtain ⟨jt,hjt,hjl⟩:=Gr.called_bnd he5
   have hwl:w2.length=l.length:=by rw [hw2,Gr.waitQ_len,hgl]
   obtain ⟨e6,he6⟩:=ex_at (l:=w2) (i:=(e5).toNat) (by omega)
   refine J.co 3 H<|O.q (Qt.ix U60 Z3 H (Src.row 0 H) he6 H (by omega)) H<|O.q (Qt.le A3 (Src.row 0 H) he6 0 H (by omega) H) H<|O.p (Pu.add' H H (by first|omega|(have h_:=Gr.waitQ_bnd (g:=(gOf l)) (i:=k) (q:=q) (by rw [←hw2];assumption);omega)|(have h_:=Gr.called_len (g:=(gOf l)) (f:=(k:Int));omega))) H<|O.q (Qt.ix U60 Z3 H (Src.row 0 H) he6 H (by omega)) H<|O.l0 (Lo.storeM 0 (j:=(e5).toNat) (off:=0) (vs:=[.int .i64 (e6+1)]) (e:=[.int .i64 e6]) (e6+1) H H H H (by omega) he6 H Z3 H H H H H) ?_
   rintro _ _ rfl
   refine O.oo 3 H<|O.p (Pu.add' H H (by first|omega|(have h_:=Gr.waitQ_bnd (g:=(gOf l)) (i:=k) (q:=q) (by rw [←hw2];assumption);omega)|(have h_:=Gr.called_len (g:=(gOf l)) (f:=(k:Int));omega))) H<|O.oc 2 H ?_
   exact J.lq ⟨q+1,w2.set (e5).toNat (e6+1)⟩ [0,2,3,11,12,17,18] [0] [1] ⟨by omega,(by rw [hw2];exact Gr.waitQ_next he5 (by rw [←hw2];exact he6))⟩ (by dsimp only;omega) ⟨(eqi (by omega)),trivial⟩ H H
  refine J.co 3 H<|O.p (Pu.add' H H (by omega)) H<|O.oc 2 H ?_
  exact J.lq ⟨k+1,w2⟩ [0,2,3,11] [0] [] ⟨by omega,(by rw [hw2];exact Gr.waitQ_row (by omega))⟩ (by dsimp only;omega) ⟨(eqi (by omega)),trivial⟩ H H
 refine J.cc 6 H ?_
 exact J.r1 [0] H H H (congrArg (fun (z:List Int)=>([row V1 3 1 (z.map encZ)]:List Sp)) (show w=Gr.leftL (gOf l) [] from (by rw [hw,show k=(gOf l).length from by omega];exact Gr.waitQ_all)))
theorem g_Order (lv:Value) (l:List Sg) (hl:l.length≤1000) (hc:∀ s∈l,s.cl.length≤1000):Tri prog 224 #[lv] [rd lv 14 (l.map Sg.cells),ros (l.map Sg.rd)] [] (fun v L'=>∃ V',v=.tuple #[V',.int .i64 (Gr.loops (gOf l))]∧L'=[row V' 3 1 ((Gr.ordL (gOf l)).map encZ)]):=by
 have hgl:=gOf_len (l:=l)
 refine Tri.en func224 H ntmps224 H fun w0=>J.co 12 H<|O.l (Lo.ca call299 (g_waits lv l hl hc) [] H H (.ro 0 H (.ro 1 H .nil))) H ?_
 rintro v1 _ ⟨_,rfl,rfl⟩
 refine O.oo 6 H<|O.q (Qt.lenM U23 H (Src.ro 0 H)) H<|O.oc 3 H<|J.nilRow 3 1 ?_
 refine J.lo (X:=Nat×Value×List Int×List Nat×List Int) (fun (k,V,u,o,w)=>k≤l.length∧Gr.ordN (gOf l) k=some o∧u=o.map (fun (n:Nat)=>(n:Int))∧w=Gr.leftL (gOf l) o) (fun (k,V,u,o,w)=>[(4,V),(13,.int .i64 (k:Int))]) (fun (k,V,u,o,w)=>[row V 3 1 (u.map encZ),row v1 3 1 (w.map encZ)]) (fun (k,V,u,o,w)=>l.length-k) ⟨0,Value.slice none 0 0,[],[],Gr.leftL (gOf l) []⟩ [0,5,12] [0,1] [] ⟨by omega,rfl,rfl,rfl⟩ ⟨H,(eqi (by omega)),trivial⟩ H H ?_
 rintro ⟨k,V,u,o,w⟩ ⟨hk,ho,hu,hw⟩
 refine J.cc 5 H ?_
 refine J.cd H (fun p2=>?_) (fun p2=>?_)
 ·
  refine J.co 6 H<|O.l (Lo.ca call280 (s_Index v1 w 0 (by first|omega|(rw [hw,Gr.leftL_len];omega)|(rw [hu,List.length_map,Gr.ord_len ho];omega))) [] H H (.of 1 row_rd H H .nil)) H ?_
  rintro _ _ ⟨_,⟨k3,rfl,hx4,rfl⟩,rfl⟩
  refine O.oc 8 H ?_
  refine J.cd H (fun p6=>?_) (fun p6=>?_)
  ·
   refine J.cc 5 H<|J.nr 3 1 (([]:List Int).map encZ) H ?_
   exact J.rn [_,_] [0] H ⟨H,H,trivial⟩ H ⟨Value.slice none 0 0,(by rw [Gr.loops_no (Gr.ord_stop ho (Gr.idx_none (by rw [←hw];exact hx4) (by omega)) (by omega))];rfl),(congrArg (fun (z:List Int)=>([row (Value.slice none 0 0) 3 1 (z.map encZ)]:List Sp)) (Gr.ordL_no (Gr.ord_stop ho (Gr.idx_none (by rw [←hw];exact hx4) (by omega)) (by omega))).symm)⟩
  refine J.cc 2 H ?_
  obtain ⟨p,rfl,hp⟩:=Gr.idx_some (by rw [←hw];exact hx4) (by omega)
  have hpl:=(Gr.pick_some hp).1
  have hwl0:w.length=l.length:=by rw [hw,Gr.leftL_len,hgl]
  refine J.co 3 H ?_
  obtain ⟨e7,he7⟩:=ex_at (l:=w) (i:=p) (by omega)
  refine O.q (Qt.ix U60 Z3 H (Src.row 1 H) he7 H (by rfl)) H<|O.l0 (Lo.storeM 1 (j:=p) (off:=0) (vs:=[.int .i64 (-1)]) (e:=[.int .i64 e7]) (-1) H H H H (by omega) he7 H Z3 H H H H H) ?_
  rintro _ _ rfl
  refine O.oo 6 H<|O.l (Lo.ca call300 (g_called lv l (p:Int) hl hc) [] H H (.ro 0 H (.ro 1 H .nil))) H ?_
  rintro v9 _ ⟨_,rfl,rfl⟩
  refine O.q (Qt.lenM U60 H (Src.row 0 H)) H<|O.oc 3 H ?_
  refine J.lo (X:=Nat×List Int) (fun (q,w2)=>q≤(Gr.called (gOf l) (p:Int)).length∧w2=Gr.leftQ (gOf l) o p q) (fun (q,w2)=>[(26,.int .i64 (q:Int))]) (fun (q,w2)=>[row v1 3 1 (w2.map encZ)]) (fun (q,w2)=>(Gr.called (gOf l) (p:Int)).length-q) ⟨0,w.set p (-1)⟩ [0,4,5,6,12,13,24,25] [2] [1,0] ⟨by omega,(by rw [hw];exact Gr.leftQ_zero)⟩ ⟨(eqi (by omega)),trivial⟩ H H ?_
  rintro ⟨q,w2⟩ ⟨hq,hw2⟩
  refine J.cc 5 H ?_
  refine J.cd H (fun p10=>?_) (fun p10=>?_)
  ·
   refine J.co 5 H ?_
   obtain ⟨e11,he11⟩:=ex_at (l:=(Gr.called (gOf l) (p:Int))) (i:=q) (by omega)
   refine O.q (Qt.ix U60 Z3 H (Src.row 2 H) he11 H (by rfl)) H<|O.q (Qt.le A3 (Src.row 2 H) he11 0 H (by omega) H) H<|O.oc 2 H ?_
   obtain ⟨jt,hjt,hjl⟩:=Gr.called_bnd he11
   have hwl:w2.length=l.length:=by rw [hw2,Gr.leftQ_len,hgl]
   obtain ⟨e12,he12⟩:=ex_at (l:=w2) (i:=(e11).toNat) (by omega)
   refine J.co 3 H<|O.q (Qt.ix U60 Z3 H (Src.row 0 H) he12 H (by omega)) H<|O.q (Qt.le A3 (Src.row 0 H) he12 0 H (by omega) H) H<|O.p (Pu.sub' H H (by first|omega|(have h_:=Gr.leftQ_bnd (g:=(gOf l)) (o:=o) (p:=p) (q:=q) (by rw [←hw2];assumption);omega)|(have h_:=Gr.called_len (g:=(gOf l)) (f:=(p:Int));omega))) H<|O.q (Qt.ix U60 Z3 H (Src.row 0 H) he12 H (by omega)) H<|O.l0 (Lo.storeM 0 (j:=(e11).toNat) (off:=0) (vs:=[.int .i64 (e12-1)]) (e:=[.int .i64 e12]) (e12-1) H H H H (by omega) he12 H Z3 H H H H H) ?_
   rintro _ _ rfl
   refine O.oo 3 H<|O.p (Pu.add' H H (by first|omega|(have h_:=Gr.leftQ_bnd (g:=(gOf l)) (o:=o) (p:=p) (q:=q) (by rw [←hw2];assumption);omega)|(have h_:=Gr.called_len (g:=(gOf l)) (f:=(p:Int));omega))) H<|O.oc 2 H ?_
   exact J.lq ⟨q+1,w2.set (e11).toNat (e12-1)⟩ [0,4,5,6,12,13,24,25] [0] [1,2] ⟨by omega,(by rw [hw2];exact Gr.leftQ_next ho hp he11 (by rw [←hw2];exact he12))⟩ (by dsimp only;omega) ⟨(eqi (by omega)),trivial⟩ H H
  refine J.co 4 H<|O.l (Lo.bm encZ [(p:Int)] U60 Z3 Y3 H H H (by kernel_rfl) H H) H ?_
  rintro V14 _ rfl
  refine O.l (Lo.am 2 N60 info3 H H H H H (Src.row 0 H) encZ.one (by first|omega|(simp only [List.length_set];omega)|(rw [hu,List.length_map,Gr.ord_len ho];simp only [List.length_cons,List.length_nil];omega)) (by first|omega|(simp only [List.length_set];omega)|(rw [hu,List.length_map,Gr.ord_len ho];simp only [List.length_cons,List.length_nil];omega))) H ?_
  rintro V15 _ rfl
  refine O.oo 4 H<|O.p (Pu.add' H H (by omega)) H<|O.oc 2 H ?_
  exact J.lq ⟨k+1,V15,u++([(p:Int)]),o++[p],w2⟩ [0,5,12] [2,1] [] ⟨by omega,Gr.ord_more ho hp,(by rw [hu];simp),(by rw [hw2];exact Gr.leftQ_end hp (by omega))⟩ (by dsimp only;omega) ⟨H,(eqi (by omega)),trivial⟩ H H
 refine J.cc 7 H ?_
 exact J.rn [_,_] [0] H ⟨H,H,trivial⟩ H ⟨V,(by rw [Gr.loops_yes (show Gr.ordN (gOf l) (gOf l).length=some o from (by rw [show (gOf l).length=k from by omega];exact ho))];rfl),(congrArg (fun (z:List Int)=>([row V 3 1 (z.map encZ)]:List Sp)) (show u=Gr.ordL (gOf l) from (by rw [Gr.ordL_yes (show Gr.ordN (gOf l) (gOf l).length=some o from (by rw [show (gOf l).length=k from by omega];exact ho)),hu])))⟩
theorem g_Check (lv:Value) (l:List Sg) (hl:l.length≤1000) (hc:∀ s∈l,s.cl.length≤1000):Tri prog 127 #[lv] [rd lv 14 (l.map Sg.cells),ros (l.map Sg.rd)] [] (fun v L'=>v=.int .i64 (Gr.loops (gOf l))∧L'=[]):=by
 have hgl:=gOf_len (l:=l)
 refine Tri.en func127 H ntmps127 H fun w0=>J.co 7 H<|O.l (Lo.ca call224 (g_Order lv l hl hc) [] H H (.ro 0 H (.ro 1 H .nil))) H ?_
 rintro _ _ ⟨_,⟨V1,rfl,rfl⟩,rfl⟩
 refine O.oc 11 H ?_
 exact J.r0 H H ⟨H,H⟩
end Go.Proofs.YtohjlkjhpibkmaaGreatDoor
