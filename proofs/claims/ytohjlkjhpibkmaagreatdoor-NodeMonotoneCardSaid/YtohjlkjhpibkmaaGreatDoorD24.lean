/-
  Rules and plain laws that the walks use.
-/
import Derived.KernelRfl
import Derived.Test.YtohjlkjhpibkmaaGreatDoorD23
import Derived.Test.YtohjlkjhpibkmaaGreatDoorD22
import Derived.Test.YtohjlkjhpibkmaaGreatDoorD17
set_option linter.unusedSimpArgs false
set_option linter.unusedVariables false
namespace Go.Proofs.YtohjlkjhpibkmaaGreatDoor
open Go Go.LK Go.Proofs.Tryz
set_option maxRecDepth 100000
set_option maxHeartbeats 4000000
theorem te_event (N:Nd.Nc) (now ver many calls:Int) (t:Nat) (EV FV:Value) (evs:List Ev) (kind id code a b:Int) (he:evs.length≤99999):Tri prog 80 #[.pointer (some ⟨t,0,none⟩),.int .i64 kind,.int .i64 id,.int .i64 code,.int .i64 a,.int .i64 b] [var N.n (Nd.nC N now ver many calls) 90] [var t [.pointer (some ⟨N.n,0,none⟩),EV,FV] 261,row EV 51 7 (evs.map Ev.cells)] (fun v L'=>∃ EV',v=.tuple #[]∧L'=[var t [.pointer (some ⟨N.n,0,none⟩),EV',FV] 261,row EV' 51 7 ((evs++[(⟨kind,now,N.self,id,code,a,b⟩:Ev)]).map Ev.cells)]):=by
 refine Tri.en func80 H ntmps80 H fun w0=>J.dm [(0,false),(1,false),(2,false),(3,false),(4,false),(5,false),(6,false),(7,false),(8,false),(9,false),(10,false),(11,false),(12,false),(13,false),(14,false),(15,false),(16,false),(17,false),(18,false),(19,false),(20,false),(21,false),(22,false),(23,false),(24,false),(25,false),(26,true),(27,true),(28,false),(29,false),(30,false),(31,true)] [0] Tryz.mixed (by kernel_rfl) H<|Mx.r 5 H<|Mx.q H (Qt.lv 0 A33 H H H) H<|Mx.r 4 H<|Mx.q H (Qt.lv 0 A29 H H H) H<|Mx.r 2 H<|Mx.q H (Qt.lw 0 A3 H H H) H<|Mx.r 3 H<|Mx.q H (Qt.lv 0 A29 H H H) H<|Mx.r 2 H<|Mx.q H (Qt.lw 0 A3 H H H) H<|Mx.r 4 H<|Mx.p H (Pu.build [(0,.int .i64 kind),(1,.int .i64 now),(2,.int .i64 N.self),(3,.int .i64 id),(4,.int .i64 code),(5,.int .i64 a),(6,.int .i64 b)] [.int .i64 kind,.int .i64 now,.int .i64 N.self,.int .i64 id,.int .i64 code,.int .i64 a,.int .i64 b] #[(0,1),(1,1),(2,1),(3,1),(4,1),(5,1),(6,1)] runUnderlying51 Y51 (places51 N51) H (by kernel_rfl)) H<|Mx.l H (Lo.bm Ev.cells [(⟨kind,now,N.self,id,code,a,b⟩:Ev)] U33 Z51 Y51 H H H (by kernel_rfl) H H) H ?_
 rintro V1 _ rfl
 refine MxK.gp [1] [0] H H<|Mx.l H (Lo.am 2 underlying33 info51 H H H H H (Src.row 0 H) Ev.one (by first|omega|(simp only [List.length_append,List.length_cons,List.length_nil,List.length_set];omega)) (by first|omega|(simp only [List.length_append,List.length_cons,List.length_nil,List.length_set];omega))) H ?_
 rintro V2 _ rfl
 refine MxK.gp [1] [0] H H<|Mx.r 3 H ?_
 refine Mx.one H (fun _ h=>by cases h<;>rfl) (Src.row 2 H) (fun hV3=>?_)
 refine Mx.l0 H (Lo.so 1 sizeOf33 hV3 H H H H) ?_
 rintro _ _ rfl
 refine MxK.al [1] H (by kernel_rfl)<|Mx.nil ?_
 exact J.dn [] [1,2] H trivial H ⟨_,H,H⟩
theorem te_frame (N:Nd.Nc) (t:Nat) (EV FV:Value) (frs:List Fr) (f:Fr) (he:frs.length≤99999):Tri prog 180 #[.pointer (some ⟨t,0,none⟩),.agg #[.int .i64 f.kind,.int .i64 f.qi,.int .i64 f.qf,.int .i64 f.qt,.int .i64 f.ql,.int .i64 f.qd,.int .i64 f.qb,.int .i64 f.ri,.int .i64 f.rf,.int .i64 f.rt,.int .i64 f.rc,.int .i64 f.rh,.int .i64 f.re,.int .i64 f.rr,.int .i64 f.pt,.int .i64 f.pv,.int .i64 f.p0,.int .i64 f.p1,.int .i64 f.p2,.int .i64 f.p3,.int .i64 f.p4,.int .i64 f.p5,.int .i64 f.p6]] [] [var t [.pointer (some ⟨N.n,0,none⟩),EV,FV] 261,row FV 62 23 (frs.map Fr.cells)] (fun v L'=>∃ FV',v=.tuple #[]∧L'=[var t [.pointer (some ⟨N.n,0,none⟩),EV,FV'] 261,row FV' 62 23 ((frs++[f]).map Fr.cells)]):=by
 refine Tri.en func180 H ntmps180 H fun w0=>J.co 2 H<|O.l (Lo.bx H H) H ?_
 rintro _ _ ⟨g1,rfl,rfl⟩
 refine O.nil<|J.dm [(0,false),(1,false),(2,false),(3,false),(4,false),(5,false),(6,false),(7,true),(8,true),(9,false),(10,false),(11,false),(12,true)] [0,1] Tryz.mixed (by kernel_rfl) H<|Mx.r 5 H<|Mx.q H (Qt.lv 1 isAgg34 H H H) H<|Mx.q H (Qt.lva 0 isAgg62 sizeOf62 H H H) H<|Mx.l H (Lo.bm Fr.cells [f] U34 sizeOf62 zeroValue62 H H H (by kernel_rfl) H H) H ?_
 rintro V2 _ rfl
 refine MxK.gp [1,2] [0,1] H H<|Mx.l H (Lo.am 3 underlying34 info62 H H H H H (Src.row 0 H) Fr.one (by first|omega|(simp only [List.length_append,List.length_cons,List.length_nil,List.length_set];omega)) (by first|omega|(simp only [List.length_append,List.length_cons,List.length_nil,List.length_set];omega))) H ?_
 rintro V3 _ rfl
 refine MxK.al [1,2] H (by kernel_rfl)<|Mx.r 3 H ?_
 refine Mx.one H (fun _ h=>by cases h<;>rfl) (Src.row 3 H) (fun hV4=>?_)
 refine Mx.l0 H (Lo.so 2 sizeOf34 hV4 H H H H) ?_
 rintro _ _ rfl
 refine MxK.al [1,2] H (by kernel_rfl)<|Mx.nil ?_
 exact J.dn [] [2,3] H trivial H ⟨_,H,H⟩
theorem te_end (N:Nd.Nc) (now ver many calls:Int) (k:Nd.Kt) (t:Nat) (EV FV:Value) (evs:List Ev) (frs:List Fr) (x:Im) (code:Int) (he:evs.length≤99990) (hf:frs.length≤99990):Tri prog 83 #[.pointer (some ⟨t,0,none⟩),.agg #[.int .i64 x.id,.int .i64 x.level,.int .i64 x.from_,.int .i64 x.deadline,.int .i64 x.budget,.int .i64 x.since,.int .i64 x.seq],.int .i64 code] [var N.n (Nd.nC N now ver many calls) 90,ct N k] [var t [.pointer (some ⟨N.n,0,none⟩),EV,FV] 261,row EV 51 7 (evs.map Ev.cells),row FV 62 23 (frs.map Fr.cells)] (fun v L'=>∃ EV' FV',v=.tuple #[]∧L'=[var t [.pointer (some ⟨N.n,0,none⟩),EV',FV'] 261,row EV' 51 7 ((evs++[Nd.endE now N.self (x,code)]).map Ev.cells),row FV' 62 23 ((frs++[Nd.endF N.self k (x,code)]).map Fr.cells)]):=by
 refine Tri.en func83 H ntmps83 H fun w0=>J.co 2 H<|O.l (Lo.bx H H) H ?_
 rintro _ _ ⟨g1,rfl,rfl⟩
 refine O.oo 6 H<|O.q (Qt.lv 1 A29 H H H) H<|O.oo 6 H<|O.q (Qt.lv 0 A3 H H H) H<|O.oo 2 H<|O.q (Qt.lv 0 A3 H H H) H<|O.l (Lo.ca C80 (te_event N now ver many calls t EV FV evs 4 x.id code x.level 0 (by omega)) [1,2] H H (.ro 0 H .nil)) H ?_
 rintro _ _ ⟨_,⟨E2,rfl,rfl⟩,rfl⟩
 refine O.oc 2 H<|J.drawNew 10 9 7 [.int .i64 0,.int .i64 0,.int .i64 0,.int .i64 0,.int .i64 0,.int .i64 0] Tryz.mixed (by kernel_rfl) H H (by exact Y41) H<|Hd.p (Pu.fieldAddr (off':=0) U66 H Z3 H H H) H<|Hd.q (Qt.lv 2 A3 H H H) H<|Hd.p (Pu.fieldAddr (off':=2) U66 H Z3 H H H) H<|Hd.q (Qt.lv 2 A3 H H H) H<|Hd.p (Pu.move H) H<|Hd.p (Pu.nilCheck H) H<|Hd.p (Pu.fieldAddr (off':=6) U90 H Z3 H H H) H<|Hd.q (Qt.lw 0 A3 H H H) H<|Hd.p (Pu.build [(0,.int .i64 x.id),(1,.int .i64 x.from_),(2,.int .i64 N.self)] [.int .i64 x.id,.int .i64 x.from_,.int .i64 N.self,.int .i64 0,.int .i64 0,.int .i64 0] #[(0,1),(1,1),(2,1),(3,1),(4,1),(5,1)] U41 Y41 (places41 N41) H (by kernel_rfl)) H<|Hd.new H<|Hd.nil ?_
 intro g4
 refine O.l0 (Lo.st 0 Z41 H H H H H H H) ?_
 rintro _ _ rfl
 refine O.nil<|J.drawHead 11 Tryz.mixed (by kernel_rfl)<|Hd.p (Pu.move H) H<|Hd.q (Qt.lva 0 A41 Z41 H H H) H<|Hd.p (Pu.move H) H<|Hd.p (Pu.move H) H<|Hd.call (vs:=[.pointer (some ⟨N.n,0,none⟩)]) (caps:=[]) (by exact call18) H H (nw_Threshold N now ver many calls k) (fun _ _ h=>h) (RoOk.ro 0 H [] H (RoOk.ro 1 H [] H RoOk.nil)) H<|Hd.p (Pu.move H) H<|Hd.call (vs:=[.pointer (some ⟨N.n,0,none⟩)]) (caps:=[]) (by exact call17) H H (nw_Epoch N now ver many calls k) (fun _ _ h=>h) (RoOk.ro 0 H [] H (RoOk.ro 1 H [] H RoOk.nil)) H<|Hd.p (Pu.move H) H<|Hd.call (vs:=[.pointer (some ⟨N.n,0,none⟩)]) (caps:=[]) (by exact call19) H H (nw_Tier N now ver many calls k) (fun _ _ h=>h) (RoOk.ro 0 H [] H (RoOk.ro 1 H [] H RoOk.nil)) H<|Hd.call (vs:=[.agg #[.int .i64 x.id,.int .i64 x.from_,.int .i64 N.self,.int .i64 0,.int .i64 0,.int .i64 0],.int .i64 code,.int .i64 k.thr,.int .i64 k.ep,.int .i64 k.tier]) (caps:=[]) (by exact call181) H H (rp_To x.id x.from_ N.self 0 0 0 code k.thr k.ep k.tier) (fun _ _ h=>h) RoOk.nil H<|Hd.p (Pu.build [(0,.int .i64 2),(2,.agg #[.int .i64 x.id,.int .i64 N.self,.int .i64 x.from_,.int .i64 code,.int .i64 k.thr,.int .i64 k.ep,.int .i64 k.tier])] [.int .i64 2,.int .i64 0,.int .i64 0,.int .i64 0,.int .i64 0,.int .i64 0,.int .i64 0,.int .i64 x.id,.int .i64 N.self,.int .i64 x.from_,.int .i64 code,.int .i64 k.thr,.int .i64 k.ep,.int .i64 k.tier,.int .i64 0,.int .i64 0,.int .i64 0,.int .i64 0,.int .i64 0,.int .i64 0,.int .i64 0,.int .i64 0,.int .i64 0] #[(0,1),(1,6),(7,7),(14,9)] runUnderlying62 zeroValue62 (places62 underlying62) H (by kernel_rfl)) H<|Hd.nil<|O.l (Lo.ca call180 (te_frame N t E2 FV frs (⟨2,0,0,0,0,0,0,x.id,N.self,x.from_,code,k.thr,k.ep,k.tier,0,0,0,0,0,0,0,0,0⟩:Fr) (by omega)) [1,4] H H .nil) H ?_
 rintro _ _ ⟨_,⟨F5,rfl,rfl⟩,rfl⟩
 refine O.nil ?_
 exact J.dn [] [0,3,1] H trivial H ⟨_,_,H,H⟩
theorem te_over (N:Nd.Nc) (now ver many calls:Int) (k:Nd.Kt) (t:Nat) (EV FV:Value) (evs:List Ev) (frs:List Fr) (ps:Nd.Pl) (jm:List (Int×Nd.Jb)) (ws:Ws) (wl:List Pr) (y:Im) (code:Int) (hN:N.Ok) (hin:Nd.In N ps jm wl ws) (hy:y∈Nd.its ps) (he:evs.length≤99990) (hf:frs.length≤99990):Tri prog 191 #[.pointer (some ⟨t,0,none⟩),.int .i64 y.id,.int .i64 code] [var N.n (Nd.nC N now ver many calls) 90,ct N k] [var t [.pointer (some ⟨N.n,0,none⟩),EV,FV] 261,row EV 51 7 (evs.map Ev.cells),row FV 62 23 (frs.map Fr.cells),sl N ps,mi N.jb Nd.jobV jm,bun (Nd.nRows 3 jm),wt 195 N.w ws] (fun v L'=>∃ EV' FV' ps' ws',v=.tuple #[]∧(Nd.its ps).Perm (y :: Nd.its ps')∧Nd.In N ps' (delI jm y.id) (Wt.drop wl y.id) ws'∧L'=[var t [.pointer (some ⟨N.n,0,none⟩),EV',FV'] 261,row EV' 51 7 ((evs++[Nd.endE now N.self (y,code)]).map Ev.cells),row FV' 62 23 ((frs++[Nd.endF N.self k (y,code)]).map Fr.cells),sl N ps',mi N.jb Nd.jobV (delI jm y.id),bun (Nd.nRows 3 (delI jm y.id)),wt 195 N.w ws']):=by
 refine Tri.en func191 H ntmps191 H fun w0=>J.co 5 H<|O.q (Qt.lv 0 A29 H H H) H<|O.oo 7 H<|O.q (Qt.lw 0 A85 H H H) H<|O.oo 1 H<|O.l (Lo.ca call272 (sw_Take N ps y hN hin.hl hin.hb hy) [3] H H .nil) H ?_
 rintro _ _ ⟨_,⟨z1,ps2,hi3,hl4,hb5,hp6,rfl,rfl⟩,rfl⟩
 obtain rfl:y=z1:=hin.j.ids hy (hp6.mem_iff.2 List.mem_cons_self) hi3.symm
 refine O.oo 3 H<|O.l (Lo.al Y66 H) H ?_
 rintro _ _ ⟨g8,rfl,rfl⟩
 refine O.l0 (Lo.st 0 Z66 H H H H H H H) ?_
 rintro _ _ rfl
 refine O.oo 7 H<|O.q (Qt.lw 0 A86 H H H) H<|O.oo 1 H<|O.l0 (Lo.mapDel 5 H N86 N3 H H H) ?_
 rintro _ _ rfl
 refine O.oo 6 H<|O.q (Qt.lw 0 A87 H H H) H<|O.oo 1 H<|O.l (Lo.ca call273 (wt_Drop N.w ws wl hin.r y.id hin.wn) [7] H H .nil) H ?_
 rintro v11 _ ⟨_,⟨ws9,hr10,rfl⟩,rfl⟩
 refine O.oo 3 H<|O.q (Qt.lva 2 A66 Z66 H H H) H<|O.oo 1 H<|O.l (Lo.ca call83 (te_end N now ver many calls k t EV FV evs frs y code (by omega) (by omega)) [4,5,6] H H (.ro 0 H (.ro 1 H .nil))) H ?_
 rintro _ _ ⟨_,⟨E12,F13,rfl,rfl⟩,rfl⟩
 refine O.nil<|J.re (Re.trans (Re.sn [8,0,1,2,3,4,5,6,7] H) (Re.hd1 (Nd.nRows_del (id:=y.id)))) ?_
 exact J.dn [] [1,2,3,7,8,0,5] H trivial H ⟨_,_,_,_,H,hp6,hin.over hp6 hl4 hb5 hr10,H⟩
theorem te_line (N:Nd.Nc) (now ver many calls:Int) (k:Nd.Kt) (t:Nat) (EV FV:Value) (evs:List Ev) (frs:List Fr) (q:Nd.Qu) (id fr to level dl bu:Int) (hN:N.Ok) (hq:q.Ok N) (hno:∀ y∈q.t,y.id≠id) (hm0:0≤many) (hm1:many≤1000000) (he:evs.length≤99990) (hf:frs.length≤99990):Tri prog 85 #[.pointer (some ⟨t,0,none⟩),.agg #[.int .i64 id,.int .i64 fr,.int .i64 to,.int .i64 level,.int .i64 dl,.int .i64 bu]] [ct N k] [var t [.pointer (some ⟨N.n,0,none⟩),EV,FV] 261,row EV 51 7 (evs.map Ev.cells),row FV 62 23 (frs.map Fr.cells),var N.n (Nd.nC N now ver many calls) 90,qu N q] (fun v L'=>∃ EV' FV' evs' frs' q',v=.tuple #[]∧q'.Ok N∧Nd.LineR N now k ⟨id,level,fr,dl,bu,now,many+1⟩ q.t q'.t evs evs' frs frs'∧L'=[var t [.pointer (some ⟨N.n,0,none⟩),EV',FV'] 261,row EV' 51 7 (evs'.map Ev.cells),row FV' 62 23 (frs'.map Fr.cells),var N.n (Nd.nC N now ver (many+1) calls) 90,qu N q']):=by
 refine Tri.en func85 H ntmps85 H fun w0=>J.co 2 H<|O.l (Lo.bx H H) H ?_
 rintro _ _ ⟨g1,rfl,rfl⟩
 refine O.oo 6 H<|O.q (Qt.lv 1 A29 H H H) H<|O.oo 7 H<|O.q (Qt.lv 4 A3 H H H) H<|O.p (Pu.add' H H (by omega)) H<|O.oo 2 H<|O.l0 (Lo.st 4 Z3 H H H H H H H) ?_
 rintro _ _ rfl
 refine O.oc 2 H ?_
 refine by_bool (decide ((q.t.length:Int) < N.qn)) (fun h2=>?_) (fun h2=>?_)
 ·
  have p3:=of_decide_eq_true h2
  refine J.drawA Tryz.mixed ?_
  refine A.edge 14 19 H ?_ ?_
  ·
   refine A.mx [(0,false),(1,false),(2,false),(3,false),(4,false),(5,false),(6,false),(7,false),(8,false),(9,false),(10,false),(11,false),(12,false),(13,false),(19,true),(14,true),(15,false),(16,false),(17,false),(18,false),(20,true),(21,false),(22,false)] [0,4] (by kernel_rfl) H<|Mx.r 3 H<|Mx.q H (Qt.lv 1 A84 H H H) H<|Mx.q H (Qt.lva 0 A41 Z41 H H H) H<|Mx.r 3 H<|Mx.q H (Qt.lv 1 A3 H H H) H<|Mx.r 3 H<|Mx.q H (Qt.lv 1 A3 H H H) H<|Mx.call (vs:=[.agg #[.int .i64 id,.int .i64 fr,.int .i64 to,.int .i64 level,.int .i64 dl,.int .i64 bu],.int .i64 now,.int .i64 (many+1)]) (caps:=[]) H (by exact call84) H H (rq_Item id fr to level dl bu now (many+1)) (fun _ _ h=>h) RoOk.nil H<|Mx.l H (Lo.al Y66 H) H ?_
   rintro _ _ ⟨g4,rfl,rfl⟩
   refine MxK.gp [1,5] [0,1] H H<|Mx.l H (Lo.ca call182 (qw_Add N q (⟨id,level,fr,dl,bu,now,many+1⟩:Im) hN hq hno (of_decide_eq_true h2)) [6] H H .nil) H ?_
   rintro _ _ ⟨_,⟨q5,hq7,hp8,rfl,rfl⟩,rfl⟩
   refine MxK.al [2,6] H (by kernel_rfl)<|Mx.r 4 H<|Mx.l0 H (Lo.st 1 Z66 H H H H H H H) ?_
   rintro _ _ rfl
   refine MxK.al [2,6] H (by kernel_rfl)<|Mx.r 2 H<|Mx.nil<|J.cc 6 H ?_
   exact J.dn [] [3,4,5,6,0] H trivial H ⟨_,_,_,_,_,H,hq7,.inl ⟨of_decide_eq_true h2,hp8,H,H⟩,H⟩
  refine A.mx [(0,false),(1,false),(2,false),(3,false),(4,false),(5,false),(6,false),(7,false),(8,false),(9,false),(10,false),(11,false),(12,false),(13,false),(14,true),(15,false),(16,false),(17,false),(18,false),(19,true),(20,true),(21,false),(22,false)] [0,4] (by kernel_rfl) H<|Mx.r 3 H<|Mx.q H (Qt.lv 1 A84 H H H) H<|Mx.q H (Qt.lva 0 A41 Z41 H H H) H<|Mx.r 3 H<|Mx.q H (Qt.lv 1 A3 H H H) H<|Mx.r 3 H<|Mx.q H (Qt.lv 1 A3 H H H) H<|Mx.call (vs:=[.agg #[.int .i64 id,.int .i64 fr,.int .i64 to,.int .i64 level,.int .i64 dl,.int .i64 bu],.int .i64 now,.int .i64 (many+1)]) (caps:=[]) H (by exact call84) H H (rq_Item id fr to level dl bu now (many+1)) (fun _ _ h=>h) RoOk.nil H<|Mx.l H (Lo.ca call182 (qw_Add N q (⟨id,level,fr,dl,bu,now,many+1⟩:Im) hN hq hno (of_decide_eq_true h2)) [5] H H .nil) H ?_
  rintro _ _ ⟨_,⟨q11,hq13,hp14,rfl,rfl⟩,rfl⟩
  refine MxK.al [1,5] H (by kernel_rfl)<|Mx.r 4 H<|Mx.l H (Lo.al Y66 H) H ?_
  rintro _ _ ⟨g17,rfl,rfl⟩
  refine MxK.al [2,6] H (by kernel_rfl)<|Mx.l0 H (Lo.st 0 Z66 H H H H H H H) ?_
  rintro _ _ rfl
  refine MxK.al [2,6] H (by kernel_rfl)<|Mx.r 2 H<|Mx.nil<|J.cc 6 H ?_
  exact J.dn [] [3,4,5,6,1] H trivial H ⟨_,_,_,_,_,H,hq13,.inl ⟨of_decide_eq_true h2,hp14,H,H⟩,H⟩
 have p18:=of_decide_eq_false h2
 refine J.drawA Tryz.mixed ?_
 refine A.edge 14 19 H ?_ ?_
 ·
  refine A.mx [(0,false),(1,false),(2,false),(3,false),(4,false),(5,false),(6,false),(7,false),(8,false),(9,false),(10,false),(11,false),(12,false),(13,false),(19,true),(14,true),(15,false),(16,false),(17,false),(18,false),(20,true),(21,false),(22,false)] [0,4] (by kernel_rfl) H<|Mx.r 3 H<|Mx.q H (Qt.lv 1 A84 H H H) H<|Mx.q H (Qt.lva 0 A41 Z41 H H H) H<|Mx.r 3 H<|Mx.q H (Qt.lv 1 A3 H H H) H<|Mx.r 3 H<|Mx.q H (Qt.lv 1 A3 H H H) H<|Mx.call (vs:=[.agg #[.int .i64 id,.int .i64 fr,.int .i64 to,.int .i64 level,.int .i64 dl,.int .i64 bu],.int .i64 now,.int .i64 (many+1)]) (caps:=[]) H (by exact call84) H H (rq_Item id fr to level dl bu now (many+1)) (fun _ _ h=>h) RoOk.nil H<|Mx.l H (Lo.al Y66 H) H ?_
  rintro _ _ ⟨g19,rfl,rfl⟩
  refine MxK.gp [1,5] [0,1] H H<|Mx.l H (Lo.ca call182 (qw_AddFull N q (⟨id,level,fr,dl,bu,now,many+1⟩:Im) hN hq hno (of_decide_eq_false h2)) [6] H H .nil) H ?_
  rintro _ _ ⟨_,⟨q20,y21,hq22,hp23,hz24,rfl,rfl⟩,rfl⟩
  refine MxK.al [2,6] H (by kernel_rfl)<|Mx.r 4 H<|Mx.l0 H (Lo.st 1 Z66 H H H H H H H) ?_
  rintro _ _ rfl
  refine MxK.al [2,6] H (by kernel_rfl)<|Mx.r 2 H<|Mx.nil<|J.co 7 H<|O.q (Qt.lva 1 A66 Z66 H H H) H<|O.l (Lo.ca call83 (te_end N now ver (many+1) calls k t EV FV evs frs y21 5 (by omega) (by omega)) [3,4,5] H H (.own 6 H H (.ro 0 H .nil))) H ?_
  rintro _ _ ⟨_,⟨E26,F27,rfl,rfl⟩,rfl⟩
  refine O.nil ?_
  exact J.dn [] [0,1,2,6,3] H trivial H ⟨_,_,_,_,_,H,hq22,.inr ⟨of_decide_eq_false h2,y21,hp23,hz24,H,H⟩,H⟩
 refine A.mx [(0,false),(1,false),(2,false),(3,false),(4,false),(5,false),(6,false),(7,false),(8,false),(9,false),(10,false),(11,false),(12,false),(13,false),(14,true),(15,false),(16,false),(17,false),(18,false),(19,true),(20,true),(21,false),(22,false)] [0,4] (by kernel_rfl) H<|Mx.r 3 H<|Mx.q H (Qt.lv 1 A84 H H H) H<|Mx.q H (Qt.lva 0 A41 Z41 H H H) H<|Mx.r 3 H<|Mx.q H (Qt.lv 1 A3 H H H) H<|Mx.r 3 H<|Mx.q H (Qt.lv 1 A3 H H H) H<|Mx.call (vs:=[.agg #[.int .i64 id,.int .i64 fr,.int .i64 to,.int .i64 level,.int .i64 dl,.int .i64 bu],.int .i64 now,.int .i64 (many+1)]) (caps:=[]) H (by exact call84) H H (rq_Item id fr to level dl bu now (many+1)) (fun _ _ h=>h) RoOk.nil H<|Mx.l H (Lo.ca call182 (qw_AddFull N q (⟨id,level,fr,dl,bu,now,many+1⟩:Im) hN hq hno (of_decide_eq_false h2)) [5] H H .nil) H ?_
 rintro _ _ ⟨_,⟨q29,y30,hq31,hp32,hz33,rfl,rfl⟩,rfl⟩
 refine MxK.al [1,5] H (by kernel_rfl)<|Mx.r 4 H<|Mx.l H (Lo.al Y66 H) H ?_
 rintro _ _ ⟨g35,rfl,rfl⟩
 refine MxK.al [2,6] H (by kernel_rfl)<|Mx.l0 H (Lo.st 0 Z66 H H H H H H H) ?_
 rintro _ _ rfl
 refine MxK.al [2,6] H (by kernel_rfl)<|Mx.r 2 H<|Mx.nil<|J.co 7 H<|O.q (Qt.lva 0 A66 Z66 H H H) H<|O.l (Lo.ca call83 (te_end N now ver (many+1) calls k t EV FV evs frs y30 5 (by omega) (by omega)) [3,4,5] H H (.own 6 H H (.ro 0 H .nil))) H ?_
 rintro _ _ ⟨_,⟨E36,F37,rfl,rfl⟩,rfl⟩
 refine O.nil ?_
 exact J.dn [] [0,1,2,6,4] H trivial H ⟨_,_,_,_,_,H,hq31,.inr ⟨of_decide_eq_false h2,y30,hp32,hz33,H,H⟩,H⟩
theorem te_on (N:Nd.Nc) (now ver many calls:Int) (k:Nd.Kt) (t:Nat) (EV FV:Value) (evs:List Ev) (q:Nd.Qu) (ps:Nd.Pl) (jm:List (Int×Nd.Jb)) (ws:Ws) (wl:List Pr) (hN:N.Ok) (hk:k.Ok N) (hq:q.Ok N) (hin:Nd.In N ps jm wl ws) (hid:((q.t++Nd.its ps).map Im.id).Nodup) (he:evs.length≤90000):Tri prog 86 #[.pointer (some ⟨t,0,none⟩)] [var N.n (Nd.nC N now ver many calls) 90] [var t [.pointer (some ⟨N.n,0,none⟩),EV,FV] 261,row EV 51 7 (evs.map Ev.cells),ct N k,qu N q,sl N ps,mi N.jb Nd.jobV jm,bun (Nd.nRows 3 jm)] (fun v L'=>∃ k' q' ps' jm' EV' evs' S,v=.tuple #[]∧k'.Ok N∧k.Same k'∧q'.Ok N∧Nd.In N ps' jm' wl ws∧Nd.OnR N now q.t q'.t (Nd.its ps) (Nd.its ps') jm jm' evs evs' S∧Nd.Full N q'.t (Nd.its ps')∧L'=[var t [.pointer (some ⟨N.n,0,none⟩),EV',FV] 261,row EV' 51 7 (evs'.map Ev.cells),ct N k',qu N q',sl N ps',mi N.jb Nd.jobV jm',bun (Nd.nRows 3 jm')]):=by
 refine Tri.en func86 H ntmps86 H fun w0=>J.co 5 H<|O.q (Qt.lv 0 A29 H H H) H<|O.oc 3 H ?_
 refine J.lo (X:=Nd.Kt×Nd.Qu×Nd.Pl×(List (Int×Nd.Jb))×Value×List Ev×List Im) (fun (k1,q1,ps1,jm1,EV1,evs1,SS)=>k1.Ok N∧k.Same k1∧q1.Ok N∧Nd.In N ps1 jm1 wl ws∧Nd.OnR N now q.t q1.t (Nd.its ps) (Nd.its ps1) jm jm1 evs evs1 SS) (fun (k1,q1,ps1,jm1,EV1,evs1,SS)=>[]) (fun (k1,q1,ps1,jm1,EV1,evs1,SS)=>[var t [.pointer (some ⟨N.n,0,none⟩),EV1,FV] 261,row EV1 51 7 (evs1.map Ev.cells),ct N k1,qu N q1,sl N ps1,mi N.jb Nd.jobV jm1,bun (Nd.nRows 3 jm1)]) (fun (k1,q1,ps1,jm1,EV1,evs1,SS)=>q1.t.length) ⟨k,q,ps,jm,EV,evs,[]⟩ [0,2] [0,1,2,3,4,5,6] [] ⟨hk,Nd.Kt.Same.refl k,hq,hin,Nd.OnR.zero⟩ trivial H H ?_
 rintro ⟨k1,q1,ps1,jm1,EV1,evs1,SS⟩ ⟨hk1,hsm,hq1,hin1,hon⟩
 refine J.co 6 H<|O.q (Qt.lw 0 A85 H H H) H<|O.l (Lo.ca call183 (sw_Free N ps1 hN hin1.hl hin1.hb) [] H H (.own 4 H H .nil)) H ?_
 rintro _ _ ⟨_,⟨rfl,rfl⟩,rfl⟩
 refine O.oc 2 H ?_
 refine J.cd H (fun p2=>?_) (fun p2=>?_)
 ·
  refine J.cc 3 H ?_
  refine by_bool (decide (q1.t.length=0)) (fun h3=>?_) (fun h3=>?_)
  ·
   have p4:=of_decide_eq_true h3
   refine J.co 4 H<|O.q (Qt.lw 0 A84 H H H) H<|O.l (Lo.ca call184 (qw_NextNo N q1 (List.length_eq_zero_iff.1 (of_decide_eq_true h3))) [3] H H .nil) H ?_
   rintro _ _ ⟨_,⟨rfl,rfl⟩,rfl⟩
   refine O.oo 3 H<|O.l (Lo.al Y66 H) H ?_
   rintro _ _ ⟨g6,rfl,rfl⟩
   refine O.l0 (Lo.st 0 Z66 H H H H H H H) ?_
   rintro _ _ rfl
   refine O.oc 9 H ?_
   exact J.rn [] [2,3,4,1,5,6,7] H trivial H ⟨_,_,_,_,_,_,_,H,hk1,hsm,hq1,hin1,hon,.inl (List.length_eq_zero_iff.1 (of_decide_eq_true h3)),H⟩
  have p7:=of_decide_eq_false h3
  refine J.co 4 H<|O.q (Qt.lw 0 A84 H H H) H<|O.l (Lo.ca call184 (qw_Next N q1 hN hq1 (fun h_=>absurd (by rw [h_];rfl) (of_decide_eq_false h3))) [3] H H .nil) H ?_
  rintro _ _ ⟨_,⟨q8,x9,hq10,hx11,rfl,rfl⟩,rfl⟩
  refine O.oo 3 H<|O.l (Lo.al Y66 H) H ?_
  rintro _ _ ⟨g13,rfl,rfl⟩
  refine O.l0 (Lo.st 0 Z66 H H H H H H H) ?_
  rintro _ _ rfl
  refine O.oc 11 H<|J.drawTail 5 Tryz.mixed (by kernel_rfl)<|S.r 3 H<|S.q (Qt.lw 0 A85 H H H) H<|S.q (Qt.lva 0 A66 Z66 H H H) H<|S.endO<|O.l (Lo.ca call185 (sw_Put N ps1 x9 hN hin1.hl hin1.hb (hon.fresh hid hx11) (by omega)) [5] H H .nil) H ?_
  rintro _ _ ⟨_,⟨n14,ps15,hl16,hb17,hp18,rfl,rfl⟩,rfl⟩
  refine O.oc 2 H<|J.drawHead 8 Tryz.mixed (by kernel_rfl)<|Hd.p (Pu.move H) H<|Hd.p (Pu.nilCheck H) H<|Hd.p (Pu.fieldAddr (off':=28) U90 H sizeOf86 H H H) H<|Hd.q (Qt.lw 0 A86 H H H) H<|Hd.p (Pu.fieldAddr (off':=0) U66 H Z3 H H H) H<|Hd.q (Qt.lv 1 A3 H H H) H<|Hd.q (Qt.lva 1 A66 Z66 H H H) H<|Hd.call (vs:=[.agg #[.int .i64 x9.id,.int .i64 x9.level,.int .i64 x9.from_,.int .i64 x9.deadline,.int .i64 x9.budget,.int .i64 x9.since,.int .i64 x9.seq]]) (caps:=[]) (by exact call186) H H (jb_New x9) (fun _ _ h=>h) RoOk.nil H<|Hd.nil<|O.l0 (Lo.mapPut (u:=(Nd.jNew x9)) 6 N86 N3 H H H H) ?_
  rintro _ _ rfl
  refine O.oc 2 H<|J.nr 3 1 (([]:List Int).map encZ) H<|J.re (Re.trans (Re.sn [0,8,1,2,3,4,5,6,7] H) (Re.hd2 (Nd.nRows_new (hin1.j.no.2 (hon.fresh hid hx11)) (Nd.jNew x9))))<|J.drawTail 6 Tryz.mixed (by kernel_rfl)<|S.r 3 H<|S.q (Qt.lw 0 A3 H H H) H<|S.r 1 H<|S.q (Qt.lv 2 A3 H H H) H<|S.endO<|O.l (Lo.ca call187 (bd_Left now x9.since) [] H H .nil) H ?_
  rintro _ _ ⟨_,⟨rfl,rfl⟩,rfl⟩
  refine O.oo 7 H<|O.q (Qt.lw 0 A82 H H H) H<|O.oo 1 H<|O.l (Lo.ca call188 (ct_Waited N k1 (Sh.left now x9.since) hN hk1) [6] H H .nil) H ?_
  rintro _ _ ⟨_,⟨k21,hk22,hsm23,rfl,rfl⟩,rfl⟩
  refine O.oo 4 H<|O.q (Qt.lv 3 A3 H H H) H<|O.oo 2 H<|O.q (Qt.lv 3 A3 H H H) H<|O.l (Lo.ca C80 (te_event N now ver many calls t EV1 FV evs1 3 x9.id 0 (Sh.left now x9.since) x9.deadline (by have h1_:=hon.len;have h2_:=hon.num;have h3_:=Nd.its_le hin1.hb;have h4_:=hN.hw1;omega)) [5,6] H H (.ro 0 H .nil)) H ?_
  rintro _ _ ⟨_,⟨E25,rfl,rfl⟩,rfl⟩
  refine O.oc 2 H ?_
  exact J.lq ⟨k21,q8,ps15,putI jm1 x9.id (Nd.jNew x9),E25,evs1++[(⟨3,now,N.self,x9.id,0,Sh.left now x9.since,x9.deadline⟩:Ev)],SS++[x9]⟩ [0,2] [0,1,2,6,4,7,3] [] ⟨hk22,hsm.trans hsm23,hq10,hin1.start hp18 (hon.fresh hid hx11) hl16 hb17,hon.next hid hx11 hp18⟩ (by have h_:=hx11.length_eq;simp only [List.length_cons] at h_;dsimp only;omega) trivial H H
 refine J.cc 1 H ?_
 exact J.dn [] [0,1,2,3,4,5,6] H trivial H ⟨_,_,_,_,_,_,_,H,hk1,hsm,hq1,hin1,hon,.inr (by have h1_:=Nd.its_le hin1.hb;have h2_:=hN.hw0;omega),H⟩
theorem jb_EndsY (x:Im) (ph:Int) (nv:Value) (now:Int) (hnv:Value.oneCell' nv=true) (h:x.deadline≤now):Tri prog 209 #[.agg #[.int .i64 x.id,.int .i64 x.level,.int .i64 x.from_,.int .i64 x.deadline,.int .i64 x.budget,.int .i64 x.since,.int .i64 x.seq,.int .i64 ph,nv],.int .i64 now] [] [] (fun v L'=>v=.int .i64 6∧L'=[]):=by
 have h_:=jb_Ends x ph nv now hnv
 rwa [if_pos h] at h_
theorem jb_EndsN (x:Im) (ph:Int) (nv:Value) (now:Int) (hnv:Value.oneCell' nv=true) (h:¬x.deadline≤now):Tri prog 209 #[.agg #[.int .i64 x.id,.int .i64 x.level,.int .i64 x.from_,.int .i64 x.deadline,.int .i64 x.budget,.int .i64 x.since,.int .i64 x.seq,.int .i64 ph,nv],.int .i64 now] [] [] (fun v L'=>v=.int .i64 0∧L'=[]):=by
 have h_:=jb_Ends x ph nv now hnv
 rwa [if_neg h] at h_
theorem te_late (N:Nd.Nc) (now ver many calls:Int) (k:Nd.Kt) (t:Nat) (EV FV:Value) (evs:List Ev) (frs:List Fr) (ps:Nd.Pl) (jm:List (Int×Nd.Jb)) (ws:Ws) (wl:List Pr) (hN:N.Ok) (hin:Nd.In N ps jm wl ws) (he:evs.length≤90000) (hf:frs.length≤90000):Tri prog 105 #[.pointer (some ⟨t,0,none⟩)] [var N.n (Nd.nC N now ver many calls) 90,ct N k] [var t [.pointer (some ⟨N.n,0,none⟩),EV,FV] 261,row EV 51 7 (evs.map Ev.cells),row FV 62 23 (frs.map Fr.cells),sl N ps,mi N.jb Nd.jobV jm,bun (Nd.nRows 3 jm),wt 195 N.w ws] (fun v L'=>∃ ps' jm' ws' wl' EV' FV' evs' frs' D,v=.tuple #[]∧Nd.In N ps' jm' wl' ws'∧Nd.LateR N now k (Nd.its ps) (Nd.its ps') jm jm' evs evs' frs frs' D∧(∀ y∈Nd.its ps',now < y.deadline)∧wl'.length≤wl.length∧L'=[var t [.pointer (some ⟨N.n,0,none⟩),EV',FV'] 261,row EV' 51 7 (evs'.map Ev.cells),row FV' 62 23 (frs'.map Fr.cells),sl N ps',mi N.jb Nd.jobV jm',bun (Nd.nRows 3 jm'),wt 195 N.w ws']):=by
 refine Tri.en func105 H ntmps105 H fun w0=>J.co 5 H<|O.q (Qt.lv 0 A29 H H H) H<|O.oo 7 H<|O.q (Qt.lw 0 A85 H H H) H<|O.l (Lo.ca call41 (sw_All N ps hN hin.hl hin.hb) [] H H (.own 3 H H .nil)) H ?_
 rintro v1 _ ⟨_,rfl,rfl⟩
 refine O.q (Qt.lenM U52 H (Src.row 0 H)) H<|O.oc 3 H ?_
 refine J.lo (X:=Nat×Nd.Pl×(List (Int×Nd.Jb))×Ws×List Pr×Value×Value×List Ev×List Fr×List Im) (fun (i,ps1,jm1,ws1,wl1,EV1,FV1,evs1,frs1,D)=>i≤(Nd.its ps).length∧Nd.In N ps1 jm1 wl1 ws1∧Nd.LateR N now k (Nd.its ps) (Nd.its ps1) jm jm1 evs evs1 frs frs1 D∧Nd.Seen now (Nd.its ps) D i∧wl1.length≤wl.length) (fun (i,ps1,jm1,ws1,wl1,EV1,FV1,evs1,frs1,D)=>[(16,.int .i64 (i:Int))]) (fun (i,ps1,jm1,ws1,wl1,EV1,FV1,evs1,frs1,D)=>[var t [.pointer (some ⟨N.n,0,none⟩),EV1,FV1] 261,row EV1 51 7 (evs1.map Ev.cells),row FV1 62 23 (frs1.map Fr.cells),sl N ps1,mi N.jb Nd.jobV jm1,bun (Nd.nRows 3 jm1),wt 195 N.w ws1]) (fun (i,ps1,jm1,ws1,wl1,EV1,FV1,evs1,frs1,D)=>(Nd.its ps).length-i) ⟨0,ps,jm,ws,wl,EV,FV,evs,frs,[]⟩ [0,2,14,15] [1,2,3,4,5,6,7] [0] ⟨by omega,hin,Nd.LateR.zero,Nd.Seen.zero,Nat.le_refl _⟩ ⟨(eqi (by omega)),trivial⟩ H H ?_
 rintro ⟨i,ps1,jm1,ws1,wl1,EV1,FV1,evs1,frs1,D⟩ ⟨hi,hin1,hlr,hsn,hwn⟩
 refine J.cc 5 H ?_
 refine J.cd H (fun p2=>?_) (fun p2=>?_)
 ·
  refine J.co 5 H ?_
  obtain ⟨e3,he3⟩:=ex_at (l:=Nd.its ps) (i:=i) (by omega)
  refine O.q (Qt.ix U52 Z66 H (Src.row 7 H) he3 H (by rfl)) H<|O.q (Qt.lea A66 Z66 (Src.row 7 H) he3 0 H (by omega) H) H<|O.l (Lo.al Y66 H) H ?_
  rintro _ _ ⟨g4,rfl,rfl⟩
  refine O.l0 (Lo.st 0 Z66 H H H H H H H) ?_
  rintro _ _ rfl
  refine O.oc 2 H ?_
  refine by_bool (decide (e3.deadline≤now)) (fun h5=>?_) (fun h5=>?_)
  ·
   have p6:=of_decide_eq_true h5
   have hme:=hsn.here hin.j.nd hlr.p he3
   obtain ⟨j,hj,hjx⟩:=hin1.j.has e3 hme
   refine J.drawTail 11 Tryz.mixed (by kernel_rfl)<|S.r 3 H<|S.q (Qt.lw 0 A86 H H H) H<|S.r 1 H<|S.q (Qt.lv 0 A3 H H H) H<|S.q (Qt.lkI (V:=.agg #[.int .i64 e3.id,.int .i64 e3.level,.int .i64 e3.from_,.int .i64 e3.deadline,.int .i64 e3.budget,.int .i64 e3.since,.int .i64 e3.seq,.int .i64 j.ph,j.v]) N86 N3 Y68 H H (Mc.own 5 N.jb H H) (by rw [hj,←hjx];rfl)) H<|S.r 3 H<|S.q (Qt.lw 0 A3 H H H) H<|S.endO<|O.l (Lo.ca call209 (jb_EndsY e3 j.ph j.v now (hin1.j.one hj) (of_decide_eq_true h5)) [] H H .nil) H ?_
   rintro _ _ ⟨_,⟨rfl,rfl⟩,rfl⟩
   refine O.oo 11 H<|O.q (Qt.lv 0 A3 H H H) H<|O.oo 1 H<|O.l (Lo.ca C191 (te_over N now ver many calls k t EV1 FV1 evs1 frs1 ps1 jm1 ws1 wl1 e3 6 hN hin1 hme (by have h1_:=hlr.len;have h2_:=hlr.num;have h3_:=Nd.its_le hin.hb;have h4_:=hN.hw1;omega) (by have h1_:=hlr.len;have h2_:=hlr.num;have h3_:=Nd.its_le hin.hb;have h4_:=hN.hw1;omega)) [1,2,3,4,5,6,7] H H (.ro 0 H (.ro 1 H .nil))) H ?_
   rintro _ _ ⟨_,⟨E8,F9,ps10,ws11,rfl,hp12,hin13,rfl⟩,rfl⟩
   refine O.oo 3 H<|O.p (Pu.add' H H (by first|omega|(have h3_:=Nd.its_le hin.hb;have h4_:=hN.hw1;omega))) H<|O.oc 2 H ?_
   exact J.lq ⟨i+1,ps10,delI jm1 e3.id,ws11,Wt.drop wl1 e3.id,E8,F9,evs1++[Nd.endE now N.self (e3,6)],frs1++[Nd.endF N.self k (e3,6)],D++[e3]⟩ [0,2,14,15] [0,1,2,3,4,5,6] [8] ⟨by omega,hin13,hlr.next hp12 (of_decide_eq_true h5),hsn.go he3 (of_decide_eq_true h5),Nat.le_trans Wt.drop_len hwn⟩ (by dsimp only;omega) ⟨(eqi (by omega)),trivial⟩ H H
  have p15:=of_decide_eq_false h5
  have hme:=hsn.here hin.j.nd hlr.p he3
  obtain ⟨j,hj,hjx⟩:=hin1.j.has e3 hme
  refine J.drawTail 11 Tryz.mixed (by kernel_rfl)<|S.r 3 H<|S.q (Qt.lw 0 A86 H H H) H<|S.r 1 H<|S.q (Qt.lv 0 A3 H H H) H<|S.q (Qt.lkI (V:=.agg #[.int .i64 e3.id,.int .i64 e3.level,.int .i64 e3.from_,.int .i64 e3.deadline,.int .i64 e3.budget,.int .i64 e3.since,.int .i64 e3.seq,.int .i64 j.ph,j.v]) N86 N3 Y68 H H (Mc.own 5 N.jb H H) (by rw [hj,←hjx];rfl)) H<|S.r 3 H<|S.q (Qt.lw 0 A3 H H H) H<|S.endO<|O.l (Lo.ca call209 (jb_EndsN e3 j.ph j.v now (hin1.j.one hj) (of_decide_eq_false h5)) [] H H .nil) H ?_
  rintro _ _ ⟨_,⟨rfl,rfl⟩,rfl⟩
  refine O.oo 11 H<|O.p (Pu.add' H H (by first|omega|(have h3_:=Nd.its_le hin.hb;have h4_:=hN.hw1;omega))) H<|O.oc 2 H ?_
  exact J.lq ⟨i+1,ps1,jm1,ws1,wl1,EV1,FV1,evs1,frs1,D⟩ [0,2,14,15] [1,2,3,4,5,6,7] [8] ⟨by omega,hin1,hlr,hsn.stay he3 (of_decide_eq_false h5),hwn⟩ (by dsimp only;omega) ⟨(eqi (by omega)),trivial⟩ H H
 refine J.cc 1 H ?_
 exact J.dn [] [0,1,2,3,4,5,6] H trivial H ⟨_,_,_,_,_,_,_,_,_,H,hin1,hlr,hsn.left hin.j.nd hlr.p (by omega),hwn,H⟩
theorem bd_KeepS (n most:Int):Tri prog 199 #[.int .i64 n,.int .i64 most] [] [] (fun v L'=>v=.int .i64 (Si.keep n most)∧L'=[]):=by
 refine Tri.en func199 H ntmps199 H fun w0=>J.co 8 H<|O.p (Pu.min H H) H<|O.p (Pu.max H H) H<|O.oc 2 H ?_
 exact J.r0 H H ⟨H,H⟩
theorem bd_times (a b:Int):Tri prog 227 #[.int .i64 a,.int .i64 b] [] [] (fun v L'=>v=.int .i64 (IntKind.i64.wrap (a*b))∧L'=[]):=by
 refine Tri.en func227 H ntmps227 H fun w0=>J.co 8 H<|O.p (Pu.mul H H) H<|O.oc 2 H ?_
 exact J.r0 H H ⟨H,H⟩
theorem bd_countsMul (a b:Int):Tri prog 226 #[.int .i64 a,.int .i64 b,.func (.func 227) #[] #[]] [] [] (fun v L'=>v=.int .i64 (Si.mulC a b)∧L'=[]):=by
 refine Tri.en func226 H ntmps226 H fun w0=>J.co 8 H<|O.l (Lo.ca C199 (bd_KeepS a 2147483647) [] H H .nil) H ?_
 rintro _ _ ⟨_,⟨rfl,rfl⟩,rfl⟩
 refine O.oo 1 H<|O.l (Lo.ca C199 (bd_KeepS b 2147483647) [] H H .nil) H ?_
 rintro _ _ ⟨_,⟨rfl,rfl⟩,rfl⟩
 refine O.l (Lo.cv call227 H H (bd_times (Si.keep a 2147483647) (Si.keep b 2147483647)) [] H .nil) H ?_
 rintro _ _ ⟨_,⟨rfl,rfl⟩,rfl⟩
 refine O.l (Lo.ca C199 (bd_KeepS (IntKind.i64.wrap ((Si.keep a 2147483647)*(Si.keep b 2147483647))) 2147483647) [] H H .nil) H ?_
 rintro _ _ ⟨_,⟨rfl,rfl⟩,rfl⟩
 refine O.oc 2 H ?_
 exact J.r0 H H ⟨H,H⟩
theorem bd_Mul (a b:Int):Tri prog 133 #[.int .i64 a,.int .i64 b] [] [] (fun v L'=>v=.int .i64 (Si.mulC a b)∧L'=[]):=by
 refine Tri.en func133 H ntmps133 H fun w0=>J.co 8 H<|O.l (Lo.ca call226 (bd_countsMul a b) [] H H .nil) H ?_
 rintro _ _ ⟨_,⟨rfl,rfl⟩,rfl⟩
 refine O.oc 2 H ?_
 exact J.r0 H H ⟨H,H⟩
theorem lv_New (b c:Int) (hb:Si.okL b c=true):Tri prog 123 #[.int .i64 b,.int .i64 c] [] [] (fun v L'=>v=.tuple #[.agg #[.int .i64 b,.int .i64 c],.int .i64 0]∧L'=[]):=by
 have hb2:=Si.okL_iff.1 hb
 refine Tri.en func123 H ntmps123 H fun w0=>J.co 2 H<|O.l (Lo.al Y184 H) H ?_
 rintro _ _ ⟨g1,rfl,rfl⟩
 refine O.oo 6 H<|O.p (Pu.build [(0,.int .i64 b),(1,.int .i64 c)] [.int .i64 b,.int .i64 c] #[(0,1),(1,1)] runUnderlying182 zeroValue182 (places182 underlying182) H (by kernel_rfl)) H<|O.p (Pu.build [(0,.agg #[.int .i64 b,.int .i64 c])] [.int .i64 b,.int .i64 c] #[(0,2)] U184 Y184 (places184 N184) H (by kernel_rfl)) H<|O.l (Lo.al Y184 H) H ?_
 rintro _ _ ⟨g2,rfl,rfl⟩
 refine O.l0 (Lo.st 0 Z184 H H H H H H H) ?_
 rintro _ _ rfl
 refine O.oo 7 H<|O.kf 13 H (decide_eq_false (by omega))<|O.oo 4 H<|O.kf 17 H (decide_eq_false (by omega))<|O.oo 4 H<|O.kf 21 H (decide_eq_false (by omega))<|O.oc 4 H<|J.condF H (decide_eq_false (by omega))<|J.co 3 H<|O.q (Qt.lva 0 isAgg184 Z184 H H H) H<|O.l0 (Lo.st 1 Z184 H H H H H H H) ?_
 rintro _ _ rfl
 refine O.oc 2 H ?_
 exact J.rn [_,_] [] H ⟨⟨_,_,0,0,_,H,(Cel.var 1 H),H,(Cut.agg [.int .i64 b,.int .i64 c] isAgg184 Z184 H H)⟩,H,trivial⟩ H ⟨H,H⟩
theorem lv_NewNo (b c:Int) (hb:Si.okL b c=false):Tri prog 123 #[.int .i64 b,.int .i64 c] [] [] (fun v L'=>v=.tuple #[.agg #[.int .i64 0,.int .i64 0],.int .i64 1]∧L'=[]):=by
 have hb2:=Si.okL_no hb
 refine Tri.en func123 H ntmps123 H fun w0=>J.co 2 H<|O.l (Lo.al Y184 H) H ?_
 rintro _ _ ⟨g1,rfl,rfl⟩
 refine O.oo 6 H<|O.p (Pu.build [(0,.int .i64 b),(1,.int .i64 c)] [.int .i64 b,.int .i64 c] #[(0,1),(1,1)] runUnderlying182 zeroValue182 (places182 underlying182) H (by kernel_rfl)) H<|O.p (Pu.build [(0,.agg #[.int .i64 b,.int .i64 c])] [.int .i64 b,.int .i64 c] #[(0,2)] U184 Y184 (places184 N184) H (by kernel_rfl)) H<|O.l (Lo.al Y184 H) H ?_
 rintro _ _ ⟨g2,rfl,rfl⟩
 refine O.l0 (Lo.st 0 Z184 H H H H H H H) ?_
 rintro _ _ rfl
 refine O.oo 7 H ?_
 refine O.sd 13 H (fun p3=>?_) (fun p3=>?_)
 ·
  refine O.oo 15 H<|O.p (Pu.build [] [.int .i64 0,.int .i64 0] #[(0,2)] U184 Y184 (places184 N184) H (by kernel_rfl)) H<|O.l0 (Lo.st 1 Z184 H H H H H H H) ?_
  rintro _ _ rfl
  refine O.oc 2 H ?_
  exact J.rn [_,_] [] H ⟨⟨_,_,0,0,_,H,(Cel.var 1 H),H,(Cut.agg [.int .i64 0,.int .i64 0] isAgg184 Z184 H H)⟩,H,trivial⟩ H ⟨H,H⟩
 refine O.oo 4 H ?_
 refine O.sd 17 H (fun p4=>?_) (fun p4=>?_)
 ·
  refine O.oo 11 H<|O.p (Pu.build [] [.int .i64 0,.int .i64 0] #[(0,2)] U184 Y184 (places184 N184) H (by kernel_rfl)) H<|O.l0 (Lo.st 1 Z184 H H H H H H H) ?_
  rintro _ _ rfl
  refine O.oc 2 H ?_
  exact J.rn [_,_] [] H ⟨⟨_,_,0,0,_,H,(Cel.var 1 H),H,(Cut.agg [.int .i64 0,.int .i64 0] isAgg184 Z184 H H)⟩,H,trivial⟩ H ⟨H,H⟩
 refine O.oo 4 H ?_
 refine O.sd 21 H (fun p5=>?_) (fun p5=>?_)
 ·
  refine O.oo 7 H<|O.p (Pu.build [] [.int .i64 0,.int .i64 0] #[(0,2)] U184 Y184 (places184 N184) H (by kernel_rfl)) H<|O.l0 (Lo.st 1 Z184 H H H H H H H) ?_
  rintro _ _ rfl
  refine O.oc 2 H ?_
  exact J.rn [_,_] [] H ⟨⟨_,_,0,0,_,H,(Cel.var 1 H),H,(Cut.agg [.int .i64 0,.int .i64 0] isAgg184 Z184 H H)⟩,H,trivial⟩ H ⟨H,H⟩
 refine O.oc 4 H ?_
 refine J.cd H (fun p6=>?_) (fun p6=>?_)
 ·
  refine J.co 2 H<|O.p (Pu.build [] [.int .i64 0,.int .i64 0] #[(0,2)] U184 Y184 (places184 N184) H (by kernel_rfl)) H<|O.l0 (Lo.st 1 Z184 H H H H H H H) ?_
  rintro _ _ rfl
  refine O.oc 2 H ?_
  exact J.rn [_,_] [] H ⟨⟨_,_,0,0,_,H,(Cel.var 1 H),H,(Cut.agg [.int .i64 0,.int .i64 0] isAgg184 Z184 H H)⟩,H,trivial⟩ H ⟨H,H⟩
 exfalso;omega
theorem us_New (n:Nat) (c r:Int) (hb:Si.okU c r=true):Tri prog 124 #[.int .u64 (Nat.cast n:Int),.int .i64 c,.int .i64 r] [] [] (fun v L'=>v=.tuple #[.agg #[.int .u64 (Nat.cast n:Int),.int .i64 c,.int .i64 r],.int .i64 0]∧L'=[]):=by
 have hb2:=Si.okU_iff.1 hb
 refine Tri.en func124 H ntmps124 H fun w0=>J.co 2 H<|O.l (Lo.al Y188 H) H ?_
 rintro _ _ ⟨g1,rfl,rfl⟩
 refine O.oo 8 H<|O.kf 10 H (decide_eq_false (by omega))<|O.oo 4 H<|O.kf 14 H (decide_eq_false (by omega))<|O.oo 4 H<|O.kf 18 H (decide_eq_false (by omega))<|O.oc 4 H<|J.condF H (decide_eq_false (by omega))<|J.co 6 H<|O.p (Pu.build [(0,.int .u64 (Nat.cast n:Int)),(1,.int .i64 c),(2,.int .i64 r)] [.int .u64 (Nat.cast n:Int),.int .i64 c,.int .i64 r] #[(0,1),(1,1),(2,1)] U188 Y188 (places188 N188) H (by kernel_rfl)) H<|O.l0 (Lo.st 0 Z188 H H H H H H H) ?_
 rintro _ _ rfl
 refine O.oc 2 H ?_
 exact J.rn [_,_] [] H ⟨⟨_,_,0,0,_,H,(Cel.var 0 H),H,(Cut.agg [.int .u64 (Nat.cast n:Int),.int .i64 c,.int .i64 r] isAgg188 Z188 H H)⟩,H,trivial⟩ H ⟨H,H⟩
theorem us_NewNo (n:Nat) (c r:Int) (hb:Si.okU c r=false):Tri prog 124 #[.int .u64 (Nat.cast n:Int),.int .i64 c,.int .i64 r] [] [] (fun v L'=>v=.tuple #[.agg #[.int .u64 0,.int .i64 0,.int .i64 0],.int .i64 1]∧L'=[]):=by
 have hb2:=Si.okU_no hb
 refine Tri.en func124 H ntmps124 H fun w0=>J.co 2 H<|O.l (Lo.al Y188 H) H ?_
 rintro _ _ ⟨g1,rfl,rfl⟩
 refine O.oo 8 H ?_
 refine O.sd 10 H (fun p2=>?_) (fun p2=>?_)
 ·
  refine O.oo 15 H<|O.p (Pu.build [] [.int .u64 0,.int .i64 0,.int .i64 0] #[(0,1),(1,1),(2,1)] U188 Y188 (places188 N188) H (by kernel_rfl)) H<|O.l0 (Lo.st 0 Z188 H H H H H H H) ?_
  rintro _ _ rfl
  refine O.oc 2 H ?_
  exact J.rn [_,_] [] H ⟨⟨_,_,0,0,_,H,(Cel.var 0 H),H,(Cut.agg [.int .u64 0,.int .i64 0,.int .i64 0] isAgg188 Z188 H H)⟩,H,trivial⟩ H ⟨H,H⟩
 refine O.oo 4 H ?_
 refine O.sd 14 H (fun p3=>?_) (fun p3=>?_)
 ·
  refine O.oo 11 H<|O.p (Pu.build [] [.int .u64 0,.int .i64 0,.int .i64 0] #[(0,1),(1,1),(2,1)] U188 Y188 (places188 N188) H (by kernel_rfl)) H<|O.l0 (Lo.st 0 Z188 H H H H H H H) ?_
  rintro _ _ rfl
  refine O.oc 2 H ?_
  exact J.rn [_,_] [] H ⟨⟨_,_,0,0,_,H,(Cel.var 0 H),H,(Cut.agg [.int .u64 0,.int .i64 0,.int .i64 0] isAgg188 Z188 H H)⟩,H,trivial⟩ H ⟨H,H⟩
 refine O.oo 4 H ?_
 refine O.sd 18 H (fun p4=>?_) (fun p4=>?_)
 ·
  refine O.oo 7 H<|O.p (Pu.build [] [.int .u64 0,.int .i64 0,.int .i64 0] #[(0,1),(1,1),(2,1)] U188 Y188 (places188 N188) H (by kernel_rfl)) H<|O.l0 (Lo.st 0 Z188 H H H H H H H) ?_
  rintro _ _ rfl
  refine O.oc 2 H ?_
  exact J.rn [_,_] [] H ⟨⟨_,_,0,0,_,H,(Cel.var 0 H),H,(Cut.agg [.int .u64 0,.int .i64 0,.int .i64 0] isAgg188 Z188 H H)⟩,H,trivial⟩ H ⟨H,H⟩
 refine O.oc 4 H ?_
 refine J.cd H (fun p5=>?_) (fun p5=>?_)
 ·
  refine J.co 2 H<|O.p (Pu.build [] [.int .u64 0,.int .i64 0,.int .i64 0] #[(0,1),(1,1),(2,1)] U188 Y188 (places188 N188) H (by kernel_rfl)) H<|O.l0 (Lo.st 0 Z188 H H H H H H H) ?_
  rintro _ _ rfl
  refine O.oc 2 H ?_
  exact J.rn [_,_] [] H ⟨⟨_,_,0,0,_,H,(Cel.var 0 H),H,(Cut.agg [.int .u64 0,.int .i64 0,.int .i64 0] isAgg188 Z188 H H)⟩,H,trivial⟩ H ⟨H,H⟩
 exfalso;omega
theorem lv_Levels (b c:Int) (hb:Si.okL b c=true):Tri prog 126 #[.agg #[.int .i64 b,.int .i64 c]] [] [] (fun v L'=>v=.int .i64 (b*c)∧L'=[]):=by
 refine Tri.en func126 H ntmps126 H fun w0=>J.co 2 H<|O.l (Lo.bx H H) H ?_
 rintro _ _ ⟨g1,rfl,rfl⟩
 refine O.oo 5 H<|O.q (Qt.lv 0 A3 H H H) H<|O.oo 1 H<|O.q (Qt.lv 0 A3 H H H) H<|O.p (Pu.mul' H H (by have h_:=Si.mul_bnd hb;omega)) H<|O.oc 2 H ?_
 exact J.r0 H H ⟨H,H⟩
theorem si_Check (b c r:Int) (n:Nat) (sv:Value) (l:List Sg) (hl:l.length≤1000) (hc:∀ s∈l,s.cl.length≤1000):Tri prog 49 #[.agg #[.int .i64 b,.int .i64 c,.int .i64 r,.int .u64 (Nat.cast n:Int),sv]] [rd sv 14 (l.map Sg.cells),ros (l.map Sg.rd)] [] (fun v L'=>v=.int .i64 (Si.chk b c r l)∧L'=[]):=by
 refine Tri.en func49 H ntmps49 H fun w0=>J.co 2 H ?_
 refine O.one (Src.ro 0 H) (fun hV2=>?_)
 refine O.l (Lo.bx H H) H ?_
 rintro _ _ ⟨g1,rfl,rfl⟩
 refine O.oc 3 H ?_
 refine by_bool (Si.okL b c) (fun h3=>?_) (fun h3=>?_)
 ·
  refine J.co 2 H<|O.q (Qt.lv 0 A3 H H H) H<|O.oo 1 H<|O.q (Qt.lv 0 A3 H H H) H<|O.l (Lo.ca call123 (lv_New b c h3) [] H H .nil) H ?_
  rintro _ _ ⟨_,⟨rfl,rfl⟩,rfl⟩
  refine O.oo 3 H<|O.l (Lo.al Y184 H) H ?_
  rintro _ _ ⟨g5,rfl,rfl⟩
  refine O.l0 (Lo.st 0 Z184 H H H H H H H) ?_
  rintro _ _ rfl
  refine O.oc 3 H ?_
  refine by_bool (Si.okU c r) (fun h6=>?_) (fun h6=>?_)
  ·
   refine J.co 2 H<|O.q (Qt.lv 1 isAgg22 H H H) H<|O.oo 1 H<|O.q (Qt.lv 1 A3 H H H) H<|O.oo 1 H<|O.q (Qt.lv 1 A3 H H H) H<|O.l (Lo.ca call124 (us_New n c r h6) [] H H .nil) H ?_
   rintro _ _ ⟨_,⟨rfl,rfl⟩,rfl⟩
   refine O.oo 3 H<|O.l (Lo.al Y188 H) H ?_
   rintro _ _ ⟨g8,rfl,rfl⟩
   refine O.l0 (Lo.st 0 Z188 H H H H H H H) ?_
   rintro _ _ rfl
   refine O.oo 13 H<|O.gz (Qt.lv 2 A23 H H H) H H<|O.gz (Qt.lenM U23 H (Src.ro 0 H)) H H<|O.oc 3 H ?_
   refine J.cd H (fun p9=>?_) (fun p9=>?_)
   ·
    refine J.cc 4 H ?_
    exact J.r0 H H ⟨(by rw [Si.chk_none (by omega)];rfl),H⟩
   refine J.co 5 H<|O.q (Qt.lv 2 A23 H H H) H<|O.q (Qt.lenM U23 H (Src.ro 0 H)) H<|O.oc 3 H ?_
   refine J.lo (X:=Nat) (fun k=>k≤l.length∧Si.chkN b c l k=true) (fun k=>[(43,.int .i64 (k:Int))]) (fun k=>[]) (fun k=>l.length-k) 0 [1,3,41,42] [] [0,1,2] ⟨by omega,Si.chkN_zero⟩ ⟨(eqi (by omega)),trivial⟩ H H ?_
   rintro k ⟨hk,hN⟩
   refine J.cc 5 H ?_
   refine J.cd H (fun p10=>?_) (fun p10=>?_)
   ·
    refine J.cc 4 H ?_
    obtain ⟨e11,he11⟩:=ex_at (l:=l) (i:=k) (by omega)
    refine J.ros 1 H (A:=rd e11.cv 4 (e11.cl.map Cl.cells)) (List.mem_map.2 ⟨e11,List.mem_of_getElem? he11,H⟩)<|J.co 2 H<|O.q (Qt.ix U23 Z56 H (Src.ro 0 H) he11 H (by rfl)) H<|O.q (Qt.lea A56 Z56 (Src.ro 0 H) he11 0 H (by omega) H) H<|O.l (Lo.al Y56 H) H ?_
    rintro _ _ ⟨g12,rfl,rfl⟩
    refine O.oo 1 H ?_
    refine O.one (Src.ro 2 H) (fun hV13=>?_)
    refine O.l0 (Lo.st 0 Z56 H H H H H (by simp only [List.all_cons,List.all_nil,Bool.and_true,hV13]<;>rfl) H) ?_
    rintro _ _ rfl
    refine O.oc 2 H<|J.drawHead 8 Tryz.mixed (by kernel_rfl)<|Hd.q (Qt.lva 0 A56 Z56 H H H) H<|Hd.p (Pu.move H) H<|Hd.p (Pu.fieldAddr (off':=4) runUnderlying25 H Z23 H H H) H<|Hd.q (Qt.lv 3 A23 H H H) H<|Hd.q (Qt.lenM U23 H (Src.ro 0 H)) H<|Hd.p (Pu.fieldAddr (off':=0) U184 H sizeOf182 H H H) H<|Hd.q (Qt.lva 2 isAgg182 sizeOf182 H H H) H<|Hd.call (vs:=[.agg #[.int .i64 b,.int .i64 c]]) (caps:=[]) (by exact call126) H H (lv_Levels b c (by assumption)) (fun _ _ h=>h) RoOk.nil H<|Hd.nil<|O.l (Lo.ca call125 (cf_Check e11.x0 e11.x1 e11.x2 e11.x3 e11.x4 e11.x5 e11.x6 e11.x7 e11.x8 e11.x9 e11.x10 e11.x11 e11.x12 e11.cv e11.cl (k:Int) (l.length:Int) (b*c) (Nat.le_trans (hc _ (List.mem_of_getElem? (by assumption))) (by decide))) [] H H (.ro 2 H .nil)) H ?_
    rintro _ _ ⟨_,⟨rfl,rfl⟩,rfl⟩
    refine O.oc 7 H ?_
    refine J.cd H (fun p15=>?_) (fun p15=>?_)
    ·
     refine J.cc 5 H ?_
     exact J.r0 H H ⟨(by rw [Si.chk_bad' he11 (by assumption)];rfl),H⟩
    refine J.co 3 H<|O.p (Pu.add' H H (by omega)) H<|O.oc 2 H ?_
    exact J.lq (k+1) [1,3,41,42] [] [1,2,3] ⟨by omega,Si.chkN_next hN he11 (Decidable.not_not.1 (by assumption))⟩ (by omega) ⟨(eqi (by omega)),trivial⟩ H H
   refine J.co 4 H<|O.q (Qt.lv 2 A23 H H H) H<|O.l (Lo.ca call127 (g_Check sv l hl hc) [] H H (.ro 0 H (.ro 1 H .nil))) H ?_
   rintro _ _ ⟨_,⟨rfl,rfl⟩,rfl⟩
   refine O.oc 2 H ?_
   exact J.r0 H H ⟨(by rw [Si.chk_all (by assumption) (by assumption) (by omega) hN (by omega) (by omega)];rfl),H⟩
  refine J.co 2 H<|O.q (Qt.lv 1 isAgg22 H H H) H<|O.oo 1 H<|O.q (Qt.lv 1 A3 H H H) H<|O.oo 1 H<|O.q (Qt.lv 1 A3 H H H) H<|O.l (Lo.ca call124 (us_NewNo n c r h6) [] H H .nil) H ?_
  rintro _ _ ⟨_,⟨rfl,rfl⟩,rfl⟩
  refine O.oo 3 H<|O.l (Lo.al Y188 H) H ?_
  rintro _ _ ⟨g18,rfl,rfl⟩
  refine O.l0 (Lo.st 0 Z188 H H H H H H H) ?_
  rintro _ _ rfl
  refine O.oc 23 H ?_
  exact J.r0 H H ⟨(by rw [Si.chk_badU (by assumption)];rfl),H⟩
 refine J.co 2 H<|O.q (Qt.lv 0 A3 H H H) H<|O.oo 1 H<|O.q (Qt.lv 0 A3 H H H) H<|O.l (Lo.ca call123 (lv_NewNo b c h3) [] H H .nil) H ?_
 rintro _ _ ⟨_,⟨rfl,rfl⟩,rfl⟩
 refine O.oo 3 H<|O.l (Lo.al Y184 H) H ?_
 rintro _ _ ⟨g20,rfl,rfl⟩
 refine O.l0 (Lo.st 0 Z184 H H H H H H H) ?_
 rintro _ _ rfl
 refine O.oc 3 H ?_
 refine by_bool (Si.okU c r) (fun h21=>?_) (fun h21=>?_)
 ·
  refine J.co 2 H<|O.q (Qt.lv 1 isAgg22 H H H) H<|O.oo 1 H<|O.q (Qt.lv 1 A3 H H H) H<|O.oo 1 H<|O.q (Qt.lv 1 A3 H H H) H<|O.l (Lo.ca call124 (us_New n c r h21) [] H H .nil) H ?_
  rintro _ _ ⟨_,⟨rfl,rfl⟩,rfl⟩
  refine O.oo 3 H<|O.l (Lo.al Y188 H) H ?_
  rintro _ _ ⟨g23,rfl,rfl⟩
  refine O.l0 (Lo.st 0 Z188 H H H H H H H) ?_
  rintro _ _ rfl
  refine O.oc 23 H ?_
  exact J.r0 H H ⟨(by rw [Si.chk_badL (by assumption)];rfl),H⟩
 refine J.co 2 H<|O.q (Qt.lv 1 isAgg22 H H H) H<|O.oo 1 H<|O.q (Qt.lv 1 A3 H H H) H<|O.oo 1 H<|O.q (Qt.lv 1 A3 H H H) H<|O.l (Lo.ca call124 (us_NewNo n c r h21) [] H H .nil) H ?_
 rintro _ _ ⟨_,⟨rfl,rfl⟩,rfl⟩
 refine O.oo 3 H<|O.l (Lo.al Y188 H) H ?_
 rintro _ _ ⟨g25,rfl,rfl⟩
 refine O.l0 (Lo.st 0 Z188 H H H H H H H) ?_
 rintro _ _ rfl
 refine O.oc 23 H ?_
 exact J.r0 H H ⟨(by rw [Si.chk_badL (by assumption)];rfl),H⟩
end Go.Proofs.YtohjlkjhpibkmaaGreatDoor
namespace Go.LK.Nd
open Go Go.LK
structure Sx where
  now:Int
  ver:Int
  many:Int
  calls:Int
  k:Kt
  sn:Sn
  q:Qu
  ps:Pl
  jm:List (Int×Jb)
  ws:Ws
  wl:List Pr
  d:Sh.Ts
structure Sx.Ok (N:Nc) (S:Sx):Prop where
  k:S.k.Ok N
  sn:S.sn.Ok
  q:S.q.Ok N
  i:In N S.ps S.jm S.wl S.ws
  ids:((S.q.t++its S.ps).map Im.id).Nodup
  n0:0≤S.now
  n1:S.now≤1099511627776
  m0:0≤S.many
  c0:0≤S.calls
structure Sx.Lt (S:Sx) (n:Nat):Prop where
  m:S.many≤n
  c:S.calls≤6*n
  w:S.wl.length≤6*n
  n:n≤10000
def isS (N:Nc) (x:Int):Bool:=decide (0≤x)&&decide (x < (N.svs.length:Int))
def rightQ (N:Nc) (id fr to level dl bu:Int):Bool:=okQ id fr to level dl bu&&decide (to=N.self)&&(decide (fr=-1) || isS N fr)&&decide (level < N.lev)
def comes (now thr level dl:Int):Int:=if dl≤now then 3 else if Sh.passes level thr=true then 0 else 2
def twiceB (S:Sx) (id:Int):Bool:=(getI S.jm id).isSome || (getI S.q.m id).isSome || (getI S.sn.m id).isSome
def callNo (N:Nc) (calls:Int):Int:=(N.self+1)*1099511627776+(calls+1)%1099511627776
theorem nRows_rd {T:Nat} {m:List (Int×Jb)} {id:Int} {j:Jb} (h:getI m id=some j):∀ w,(bun (nRows T m)).holds w→(rd j.v 1 (j.needs.map encZ)).holds w∧∀ k∈(rd j.v 1 (j.needs.map encZ)).foot,k∈(bun (nRows T m)).foot:=fun w hw=>by
  obtain ⟨h1,h2⟩:=bun_at (nRows_at (T:=T) h) w hw
  obtain ⟨h3,h4⟩:=row_rd w h1
  exact ⟨h3,fun k hk=>h2 k (h4 k hk)⟩
theorem planS_len (f:Cl→Stp) (l:List Cl):(planS f l).2.length≤l.length:=by unfold planS;split<;>simp
theorem planS_code {f:Cl→Stp} (hf:∀ c,(f c).code=0∨(f c).code=8∨(f c).code=9∨(f c).code=11) (l:List Cl):(planS f l).1=0∨(planS f l).1=8∨(planS f l).1=9∨(planS f l).1=11:=by
  unfold planS;split
  · exact hf _
  · exact .inl rfl
theorem planS_nil {f:Cl→Stp} {l:List Cl} (h:l=[]):planS f l=(0,[]):=by subst h;rfl
structure CalR (x:Im) (k:Nat) (es es1:List Ev) (fs fs1:List Fr) (calls c1:Int) (nl:List Int) (C:List Ev) (G:List Fr):Prop where
  e:es1=es++C
  f:fs1=fs++G
  ce:∀ v∈C,(v.kind=5∨v.kind=6)∧v.id=x.id
  cf:∀ v∈G,v.kind=1
  ne:C.length≤k
  nf:G.length≤k
  nn:nl.length≤k
  c0:calls≤c1
  c1:c1≤calls+k
section
variable {x:Im} {k:Nat} {es es1:List Ev} {fs fs1:List Fr} {calls c1:Int} {nl:List Int} {C:List Ev} {G:List Fr} {v:Ev} {g:Fr} {w:Int}
theorem CalR.zero:CalR x 0 es es fs fs calls calls [] [] []:=⟨by simp,by simp,by simp,by simp,by simp,by simp,by simp,Int.le_refl _,by omega⟩
theorem CalR.skip (h:CalR x k es es1 fs fs1 calls c1 nl C G) (h1:v.kind=6) (h2:v.id=x.id):CalR x (k+1) es (es1++[v]) fs fs1 calls c1 nl (C++[v]) G :=
  ⟨by rw [h.e,List.append_assoc],h.f,fun u hu=>by
    rcases List.mem_append.1 hu with hu|hu
    · exact h.ce u hu
    · obtain rfl:=List.mem_singleton.1 hu;exact ⟨.inr h1,h2⟩,h.cf,by have:=h.ne;simp;omega,by have:=h.nf;omega,by have:=h.nn;omega,h.c0,by have:=h.c1;omega⟩
theorem CalR.call (h:CalR x k es es1 fs fs1 calls c1 nl C G) (h1:v.kind=5) (h2:v.id=x.id) (h3:g.kind=1):CalR x (k+1) es (es1++[v]) fs (fs1++[g]) calls (c1+1) nl (C++[v]) (G++[g]) :=
  ⟨by rw [h.e,List.append_assoc],by rw [h.f,List.append_assoc],fun u hu=>by
    rcases List.mem_append.1 hu with hu|hu
    · exact h.ce u hu
    · obtain rfl:=List.mem_singleton.1 hu;exact ⟨.inl h1,h2⟩,fun u hu=>by
    rcases List.mem_append.1 hu with hu|hu
    · exact h.cf u hu
    · obtain rfl:=List.mem_singleton.1 hu;exact h3,by have:=h.ne;simp;omega,by have:=h.nf;simp;omega,by have:=h.nn;omega,by have:=h.c0;omega,by have:=h.c1;omega⟩
theorem CalR.need (h:CalR x k es es1 fs fs1 calls c1 nl C G) (h1:v.kind=5) (h2:v.id=x.id) (h3:g.kind=1):CalR x (k+1) es (es1++[v]) fs (fs1++[g]) calls (c1+1) (nl++[w]) (C++[v]) (G++[g]) :=
  { h.call h1 h2 h3 with nn:=by have:=h.nn;simp;omega }
theorem CalR.len (h:CalR x k es es1 fs fs1 calls c1 nl C G):es1.length≤es.length+k∧fs1.length≤fs.length+k:=by
  have h1:=h.ne;have h2:=h.nf
  rw [h.e,h.f];simp;omega
end
section
variable {l:List Pr} {c j:Int}
theorem add_len:(Wt.add l c j).length≤l.length+1:=by
  unfold Wt.add;split
  · omega
  · rw [Wt.ins_len];exact Nat.le_refl _
theorem ins_mem:∀ {l:List Pr} {p:Pr},p∈Wt.ins l c j→p∈l∨p.job=j
  | [],p,h=>by simp [Wt.ins] at h;exact .inr (by rw [h])
  | q :: l,p,h=>by
    simp only [Wt.ins] at h
    split at h
    · rcases List.mem_cons.1 h with rfl|h
      · exact .inl List.mem_cons_self
      · rcases ins_mem h with h|h
        · exact .inl (List.mem_cons_of_mem _ h)
        · exact .inr h
    · rcases List.mem_cons.1 h with rfl|h
      · exact .inr rfl
      · exact .inl h
theorem add_mem {p:Pr} (h:p∈Wt.add l c j):p∈l∨p.job=j:=by
  unfold Wt.add at h;split at h
  · exact .inl h
  · exact ins_mem h
def WOk (wl:List Pr) (m:List (Int×Jb)):Prop:=∀ p∈wl,(getI m p.job).isSome=true
theorem WOk.add {m:List (Int×Jb)} (h:WOk l m) (hj:(getI m j).isSome=true):WOk (Wt.add l c j) m:=fun p hp=>by
  rcases add_mem hp with h1|h1
  · exact h p h1
  · rw [h1];exact hj
theorem WOk.put {m:List (Int×Jb)} {id:Int} {v:Jb} (h:WOk l m):WOk l (putI m id v):=fun p hp=>by
  rw [getI_putI];split
  · rfl
  · exact h p hp
end
def OvR (N:Nc) (now:Int) (k:Kt) (t t' js js':List Im) (m m':List (Int×Jb)) (es es':List Ev) (fs fs':List Fr) (x:Im) (code:Int):Prop :=
  ∃ js1 SS,js.Perm (x :: js1)∧OnR N now t t' js1 js' (delI m x.id) m' (es++[endE now N.self (x,code)]) es' SS∧fs'=fs++[endF N.self k (x,code)]∧Full N t' js'
def HearR (N:Nc) (now:Int) (k:Kt) (t t' js js':List Im) (m m':List (Int×Jb)) (es es':List Ev) (fs fs':List Fr) (id:Int) (j:Jb):Prop :=
  (t'=t∧js'=js∧es'=es∧fs'=fs∧∃ j':Jb,j'.x=j.x∧m'=putI m id j') ∨
  ∃ code,(code=1∨code=7)∧OvR N now k t t' js js' m m' es es' fs fs' j.x code
def CaR (N:Nc) (now:Int) (k:Kt) (x:Im) (js js':List Im) (m m':List (Int×Jb)) (es es':List Ev) (fs fs':List Fr):Prop :=
  ∃ (C:List Ev) (G:List Fr),(∀ e∈C,(e.kind=5∨e.kind=6)∧e.id=x.id)∧(∀ f∈G,f.kind=1)∧(N.calls=[]→C=[]∧G=[])∧C.length≤6∧G.length≤6 ∧
  ((∃ code,(code=1∨code=8∨code=9∨code=11)∧(N.calls=[]→code=1)∧js.Perm (x :: js')∧m'=delI m x.id∧es'=es++C++[endE now N.self (x,code)]∧fs'=fs++G++[endF N.self k (x,code)]) ∨
   (N.calls≠[]∧js'=js∧es'=es++C∧fs'=fs++G∧∃ j':Jb,j'.x=x∧m'=putI m x.id j'))
structure Stay (S S':Sx):Prop where
  now:S'.now=S.now
  ver:S'.ver=S.ver
  k:S.k.Same S'.k
structure Err (S S':Sx) (es:List Ev) (fs:List Fr) (e c:Int):Prop where
  e:e=c
  s:S'=S
  es:es=[]
  fs:fs=[]
def ReqR (N:Nc) (S:Sx) (id fr to level dl bu:Int) (S':Sx) (es:List Ev) (fs:List Fr) (e:Int):Prop :=
  (rightQ N id fr to level dl bu=false∧Err S S' es fs e 1) ∨
  (rightQ N id fr to level dl bu=true∧e=0∧(∀ k,(getI S'.sn.m k).isSome=true→k=id∨(getI S.sn.m k).isSome=true)∧Stay S S' ∧
    ((twiceB S id=true∧es=[⟨2,S.now,N.self,id,0,0,0⟩]∧fs=[]∧S'.q=S.q∧S'.ps=S.ps∧S'.jm=S.jm) ∨
     (twiceB S id=false∧∃ k1 t1 es1 SS,S.k.Same k1 ∧
       ((comes S.now k1.thr level dl≠0∧t1=S.q.t∧es1=[⟨1,S.now,N.self,id,comes S.now k1.thr level dl,level,k1.thr⟩,endE S.now N.self (⟨id,level,fr,dl,bu,S.now,0⟩,comes S.now k1.thr level dl)]∧fs=[endF N.self k1 (⟨id,level,fr,dl,bu,S.now,0⟩,comes S.now k1.thr level dl)]) ∨
        (comes S.now k1.thr level dl=0∧LineR N S.now k1 ⟨id,level,fr,dl,bu,S.now,S.many+1⟩ S.q.t t1 [⟨1,S.now,N.self,id,comes S.now k1.thr level dl,level,k1.thr⟩] es1 [] fs)) ∧
       OnR N S.now t1 S'.q.t (its S.ps) (its S'.ps) S.jm S'.jm es1 es SS∧Full N S'.q.t (its S'.ps))))
def BrkR (N:Nc) (S:Sx) (id:Int) (S':Sx) (es:List Ev) (fs:List Fr) (e:Int):Prop :=
  (getI S.jm id=none∧Err S S' es fs e 7)∨∃ j,getI S.jm id=some j ∧
  ((j.ph≠1∧Err S S' es fs e 12)∨(j.ph=1∧e=0∧Stay S S'∧S'.sn=S.sn∧OvR N S.now S.k S.q.t S'.q.t (its S.ps) (its S'.ps) S.jm S'.jm [] es [] fs j.x 10))
def DonR (N:Nc) (S:Sx) (id:Int) (S':Sx) (es:List Ev) (fs:List Fr) (e:Int):Prop :=
  (getI S.jm id=none∧Err S S' es fs e 7)∨∃ j,getI S.jm id=some j ∧
  ((j.ph≠1∧Err S S' es fs e 12)∨(j.ph=1∧e=0∧Stay S S'∧S'.sn=S.sn∧∃ js1 m1 es1 SS,CaR N S.now S.k j.x (its S.ps) js1 S.jm m1 [] es1 [] fs∧OnR N S.now S.q.t S'.q.t js1 (its S'.ps) m1 S'.jm es1 es SS∧Full N S'.q.t (its S'.ps)))
def RepR (N:Nc) (S:Sx) (id fr to code thr ep tier:Int) (S':Sx) (es:List Ev) (fs:List Fr) (e:Int):Prop :=
  ((okR id fr to code thr ep tier&&decide (to=N.self)&&isS N fr)=false∧Err S S' es fs e 1) ∨
  ((okR id fr to code thr ep tier&&decide (to=N.self)&&isS N fr)=true∧e=0∧Stay S S'∧S'.sn=S.sn∧∃ (es1:List Ev) (w:Int),(∃ q,es1=q++[⟨7,S.now,N.self,id,code,fr,w⟩]∧(q=[]∨q=[⟨8,S.now,N.self,ep,0,fr,thr⟩])) ∧
    ((es=es1∧fs=[]∧S'.q=S.q∧S'.ps=S.ps∧S'.jm=S.jm)∨∃ jid j,getI S.jm jid=some j∧HearR N S.now S.k S.q.t S'.q.t (its S.ps) (its S'.ps) S.jm S'.jm es1 es [] fs jid j))
def PusR (N:Nc) (S:Sx) (to ver:Int) (ks:List Int) (S':Sx) (es:List Ev) (fs:List Fr) (e:Int):Prop :=
  ((okP to (to :: ver :: ks)&&decide (to=N.self))=false∧Err S S' es fs e 1) ∨
  ((okP to (to :: ver :: ks)&&decide (to=N.self))=true∧e=0∧S'.now=S.now∧S.k.Same S'.k∧S'.sn=S.sn∧S'.q=S.q∧S'.ps=S.ps∧S'.jm=S.jm∧∃ b:Int,es=[⟨10,S.now,N.self,ver,b,0,0⟩]∧fs=[])
def TicR (N:Nc) (S:Sx) (S':Sx) (es:List Ev) (fs:List Fr) (e:Int):Prop :=
  e=0∧S'.now=later S.now 1∧S'.ver=S.ver∧S'.sn=S.sn∧∃ (o t1 D js1:List Im) (m1:List (Int×Jb)) (es1 es2:List Ev) (fs1:List Fr) (SS:List Im) (k1:Kt),
    o.Perm S.q.t∧t1.Perm (Kept o S'.now o.length) ∧
    LateR N S'.now S.k (its S.ps) js1 S.jm m1 ((Gone o S'.now o.length).map fun x=>endE S'.now N.self (x,ends x S'.now)) es1 ((Gone o S'.now o.length).map fun x=>endF N.self S.k (x,ends x S'.now)) fs1 D∧(∀ y∈js1,S'.now < y.deadline) ∧
    ((¬S'.now%N.win=0∧es2=es1∧k1=S.k)∨(S'.now%N.win=0∧S.k.Moved k1∧∃ vd:Int,es2=es1++[⟨9,S'.now,N.self,k1.ep,vd,k1.thr,k1.tier⟩])) ∧
    OnR N S'.now t1 S'.q.t js1 (its S'.ps) m1 S'.jm es2 es SS∧fs=fs1∧Full N S'.q.t (its S'.ps)∧k1.Same S'.k
def RstR (N:Nc) (S:Sx) (S':Sx) (es:List Ev) (fs:List Fr) (e:Int):Prop :=
  e=0∧fs=[]∧S'.now=S.now∧S'.ver=S.ver∧S'.q.t=[]∧its S'.ps=[]∧S'.sn.n=0∧S'.sn.m=[]∧S'.d=Sh.nil∧S'.jm=[]∧S'.wl=[]∧S'.k.thr=N.lev∧S'.k.ep=Sh.keep (S.k.ep+1) 4294967295∧S'.k.tier=N.tiers ∧
  ∃ o:List Im,o.Perm S.q.t∧es=(o++its S.ps).map (fun x=>⟨12,S.now,N.self,x.id,0,x.level,0⟩)++[⟨11,S.now,N.self,S'.k.ep,0,S'.k.thr,0⟩]
section
variable {N:Nc} {S S':Sx} {n:Nat} {id:Int}
theorem Sx.Lt.up (h:S.Lt n) (hn:n≤9000):S.Lt (n+1):=⟨by have:=h.m;omega,by have:=h.c;omega,by have:=h.w;omega,by omega⟩
theorem twice_no (hS:S.Ok N) (h:twiceB S id=false):∀ y∈S.q.t++its S.ps,y.id≠id:=by
  unfold twiceB at h
  simp only [Bool.or_eq_false_iff] at h
  obtain ⟨⟨h1,h2⟩,_⟩:=h
  intro y hy
  rcases List.mem_append.1 hy with hy|hy
  · exact hS.q.hk.noneIff.1 h2 y hy
  · refine hS.i.j.no.1 ?_ y hy
    cases hg:getI S.jm id with
    | none=>rfl
    | some j=>rw [hg] at h1;cases h1
theorem ids_less {t js js1:List Im} {x:Im} (hn:((t++js).map Im.id).Nodup) (hp:js.Perm (x :: js1)):((t++js1).map Im.id).Nodup:=by
  have h1:=((List.Perm.append_left t hp).map Im.id).nodup_iff.1 hn
  have h2:((x :: (t++js1)).map Im.id).Nodup:=((List.perm_middle (a:=x) (l₁:=t) (l₂:=js1)).map Im.id).nodup_iff.1 h1
  rw [List.map_cons,List.nodup_cons] at h2
  exact h2.2
theorem OvR.ids {now:Int} {k:Kt} {t t' js js':List Im} {m m':List (Int×Jb)} {es es':List Ev} {fs fs':List Fr} {x:Im} {code:Int} (h:OvR N now k t t' js js' m m' es es' fs fs' x code) (hn:((t++js).map Im.id).Nodup):((t'++js').map Im.id).Nodup:=by
  obtain ⟨js1,SS,hp,ho,_⟩:=h
  exact (ho.all.map Im.id).nodup_iff.2 (ids_less hn hp)
theorem HearR.ids {now:Int} {k:Kt} {t t' js js':List Im} {m m':List (Int×Jb)} {es es':List Ev} {fs fs':List Fr} {id:Int} {j:Jb} (h:HearR N now k t t' js js' m m' es es' fs fs' id j) (hn:((t++js).map Im.id).Nodup):((t'++js').map Im.id).Nodup:=by
  rcases h with ⟨rfl,rfl,_⟩|⟨code,_,h⟩
  · exact hn
  · exact h.ids hn
theorem CaR.ids {now:Int} {k:Kt} {x:Im} {t js js':List Im} {m m':List (Int×Jb)} {es es':List Ev} {fs fs':List Fr} (h:CaR N now k x js js' m m' es es' fs fs') (hn:((t++js).map Im.id).Nodup):((t++js').map Im.id).Nodup:=by
  obtain ⟨C,G,_,_,_,_,_,h⟩:=h
  rcases h with ⟨_,_,_,hp,_⟩|⟨_,rfl,_⟩
  · exact ids_less hn hp
  · exact hn
theorem CaR.len {now:Int} {k:Kt} {x:Im} {js js':List Im} {m m':List (Int×Jb)} {es es':List Ev} {fs fs':List Fr} (h:CaR N now k x js js' m m' es es' fs fs'):es'.length≤es.length+7∧fs'.length≤fs.length+7:=by
  obtain ⟨C,G,_,_,_,h1,h2,h⟩:=h
  rcases h with ⟨_,_,_,_,_,rfl,rfl⟩|⟨_,_,rfl,rfl,_⟩<;>simp<;>omega
theorem OnR.ids {now:Int} {t t' js js' SS:List Im} {m m':List (Int×Jb)} {es es':List Ev} (h:OnR N now t t' js js' m m' es es' SS) (hn:((t++js).map Im.id).Nodup):((t'++js').map Im.id).Nodup:=(h.all.map Im.id).nodup_iff.2 hn
theorem job_in:∀ {l:List Pr} {c j:Int},Wt.jobOf l c=some j→∃ p∈l,p.job=j
  | [],_,_,h=>by simp [Wt.jobOf] at h
  | p :: l,c,j,h=>by
    simp only [Wt.jobOf] at h
    split at h
    · cases h;exact ⟨p,List.mem_cons_self,rfl⟩
    · obtain ⟨q,hq,he⟩:=job_in h
      exact ⟨q,List.mem_cons_of_mem _ hq,he⟩
theorem In.job {ps:Pl} {m:List (Int×Jb)} {wl:List Pr} {ws:Ws} (h:In N ps m wl ws) {c jid:Int} (hj:Wt.jobOf wl c=some jid):∃ j,getI m j.x.id=some j∧jid=j.x.id:=by
  obtain ⟨p,hp,he⟩:=job_in hj
  obtain ⟨j,hg⟩:=Option.isSome_iff_exists.1 (h.w p hp)
  obtain ⟨_,hx,_⟩:=h.j.job _ _ hg
  exact ⟨j,by rw [hx];exact hg,by rw [hx,he]⟩
theorem In.less {ps:Pl} {m:List (Int×Jb)} {wl:List Pr} {ws ws':Ws} (h:In N ps m wl ws) {c:Int} (hr:Wt.Rep (Wt.without wl c) ws'):In N ps m (Wt.without wl c) ws' :=
  ⟨h.hl,h.hb,h.j,hr,fun p hp=>h.w p (List.mem_filter.1 hp).1,Nat.le_trans Wt.without_len h.wn⟩
theorem In.zero {ws:Ws} (hr:Wt.Rep [] ws):In N (List.replicate 16 none) [] [] ws :=
  ⟨List.length_replicate,beyond_new,⟨by rw [its_new];simp,by simp [keysI],fun id j h=>by simp [getI] at h,fun x h=>by rw [its_new] at h;simp at h⟩,hr,fun p h=>by simp at h,by simp⟩
theorem later_bnd (a b:Int):0≤later a b∧later a b≤1099511627776:=Sh.tick_bnd _
theorem map_next {α β:Type} {f:α→β} {l:List α} {k:Nat} {x:α} (hx:l[k]?=some x):(l.take (k+1)).map f=(l.take k).map f++[f x]:=by rw [List.take_add_one,hx];simp
theorem map_all {α β:Type} {f:α→β} {l:List α} {k:Nat} (hk:¬k < l.length):(l.take k).map f=l.map f:=by rw [List.take_of_length_le (by omega)]
theorem ids_tick {t t' o js js1 D:List Im} {now:Int} (hn:((t++js).map Im.id).Nodup) (ho:o.Perm t) (ht:t'.Perm (Kept o now o.length)) (hj:js.Perm (D++js1)):((t'++js1).map Im.id).Nodup:=by
  have h1:((o++(D++js1)).map Im.id).Nodup:=(((ho.symm.append_right js).trans (List.Perm.append_left o hj)).map Im.id).nodup_iff.1 hn
  have h2:(Kept o now o.length++js1).Sublist (o++(D++js1)):=List.Sublist.append (by unfold Kept;exact List.filter_sublist.trans (List.take_sublist _ _)) (List.sublist_append_right _ _)
  exact (((ht.append_right js1).map Im.id).nodup_iff).2 (h1.sublist (h2.map _))
end
end Go.LK.Nd
namespace Go.Proofs.YtohjlkjhpibkmaaGreatDoor
open Go Go.LK Go.Proofs.Tryz
set_option maxRecDepth 100000
set_option maxHeartbeats 4000000
theorem sx_Levels (b c r:Int) (n:Nat) (sv:Value) (hsv:Value.oneCell' sv=true):Tri prog 52 #[.agg #[.int .i64 b,.int .i64 c,.int .i64 r,.int .u64 (Nat.cast n:Int),sv]] [] [] (fun v L'=>v=.int .i64 (Si.mulC b c)∧L'=[]):=by
 refine Tri.en func52 H ntmps52 H fun w0=>J.co 2 H<|O.l (Lo.bx H H) H ?_
 rintro _ _ ⟨g1,rfl,rfl⟩
 refine O.oo 5 H<|O.q (Qt.lv 0 A3 H H H) H<|O.oo 1 H<|O.q (Qt.lv 0 A3 H H H) H<|O.l (Lo.ca call133 (bd_Mul b c) [] H H .nil) H ?_
 rintro _ _ ⟨_,⟨rfl,rfl⟩,rfl⟩
 refine O.oc 2 H ?_
 exact J.r0 H H ⟨H,H⟩
theorem nw_isS (N:Nd.Nc) (now ver many calls:Int) (x:Int):Tri prog 92 #[.pointer (some ⟨N.n,0,none⟩),.int .i64 x] [var N.n (Nd.nC N now ver many calls) 90,rd N.sv 14 (N.svs.map Sg.cells)] [] (fun v L'=>v=.bool (Nd.isS N x)∧L'=[]):=by
 refine Tri.en func92 H ntmps92 H fun w0=>J.co 9 H ?_
 refine O.sd 7 H (fun p1=>?_) (fun p1=>?_)
 ·
  refine O.oo 5 H<|O.gz (Qt.lw 0 A23 H H H) H H<|O.gz (Qt.lenM U23 H (Src.ro 1 H)) H H<|O.oc 4 H ?_
  exact J.r0 H H ⟨by simp [vOf,Nd.isS, *],rfl⟩
 refine O.oc 11 H ?_
 exact J.r0 H H ⟨by simp [vOf,Nd.isS, *],rfl⟩
theorem nw_right (N:Nd.Nc) (now ver many calls:Int) (id fr to level dl bu:Int) (hN:N.Ok):Tri prog 78 #[.pointer (some ⟨N.n,0,none⟩),.agg #[.int .i64 id,.int .i64 fr,.int .i64 to,.int .i64 level,.int .i64 dl,.int .i64 bu]] [var N.n (Nd.nC N now ver many calls) 90,rd N.sv 14 (N.svs.map Sg.cells)] [] (fun v L'=>v=.bool (Nd.rightQ N id fr to level dl bu)∧L'=[]):=by
 refine Tri.en func78 H ntmps78 H fun w0=>J.co 2 H<|O.l (Lo.bx H H) H ?_
 rintro _ _ ⟨g1,rfl,rfl⟩
 refine O.oc 3 H<|J.dm [(0,false),(1,false),(2,false),(3,false),(4,false),(5,false),(6,false),(7,false),(8,false),(9,false),(10,false),(11,false),(12,false),(13,false),(14,false),(15,false),(16,false),(17,false),(18,false),(19,false),(20,false),(21,false),(22,false),(23,false),(24,false),(25,false),(26,false),(27,false),(28,false),(29,false),(30,false),(31,false),(32,false),(33,false)] [0] Tryz.mixed (by kernel_rfl) H<|Mx.q H (Qt.lva 0 A41 Z41 H H H) H<|Mx.call (vs:=[.agg #[.int .i64 id,.int .i64 fr,.int .i64 to,.int .i64 level,.int .i64 dl,.int .i64 bu]]) (caps:=[]) H (by exact call175) H H (rq_Check id fr to level dl bu) (fun _ _ h=>h) RoOk.nil H<|Mx.r 2 H ?_
 refine by_bool (decide ((if Nd.okQ id fr to level dl bu=true then (0:Int) else 1)=0)) (fun h2=>?_) (fun h2=>?_)
 ·
  have p3:=of_decide_eq_true h2
  refine Mx.gq (t:=8) H H H h2 H (Pu.qt (Pu.fieldAddr (off':=2) U41 H Z3 H H H)) H<|Mx.gq (t:=8) H H H h2 H (Qt.lv 0 A3 H H H) H<|Mx.gq (t:=8) H H H h2 H (Pu.qt (Pu.move H)) H<|Mx.gq (t:=8) H H H h2 H (Pu.qt (Pu.nilCheck H)) H<|Mx.gq (t:=8) H H H h2 H (Pu.qt (Pu.fieldAddr (off':=6) U90 H Z3 H H H)) H<|Mx.gq (t:=8) H H H h2 H (Qt.lw 0 A3 H H H) H<|Mx.gq (t:=8) H H H h2 H (Pu.qt (Pu.eql H H)) H<|Mx.p H (Pu.pickT H h2 H) H<|Mx.r 1 H ?_
  refine by_bool (decide (to=N.self)) (fun h4=>?_) (fun h4=>?_)
  ·
   have p5:=of_decide_eq_true h4
   refine Mx.gq (t:=17) H H H h4 H (Pu.qt (Pu.fieldAddr (off':=1) U41 H Z3 H H H)) H<|Mx.gq (t:=17) H H H h4 H (Qt.lv 0 A3 H H H) H<|Mx.gq (t:=17) H H H h4 H (Pu.qt (Pu.eql H H)) H<|Mx.gq (t:=17) H H H h4 H (Pu.qt (Pu.move H)) H ?_
   refine by_bool (decide (fr=(-1))) (fun h6=>?_) (fun h6=>?_)
   ·
    have p7:=of_decide_eq_true h6
    refine Mx.gskip (t:=21) H H H (no_bool (by rw [h6];decide)) H H<|Mx.gskip (t:=21) H H H (no_bool (by rw [h6];decide)) H H<|Mx.gskip (t:=21) H H H (no_bool (by rw [h6];decide)) H H<|Mx.gskip (t:=21) H H H (no_bool (by rw [h6];decide)) H H<|Mx.gq (t:=17) H H H h4 H (Pu.qt (Pu.pickT H h6 H)) H<|Mx.p H (Pu.pickT H h4 H) H<|Mx.r 2 H<|Mx.gz (Qt.lv 0 A3 H H H) H H H<|Mx.r 3 H<|Mx.gz (Qt.lwa 0 A25 Z25 H H H) H H H<|Mx.gcall (vs:=[.agg #[.int .i64 N.bu,.int .i64 N.cl,.int .i64 N.ro,.int .u64 (Nat.cast N.key:Int),N.sv]]) (caps:=[]) (t:=28) H H H H H (by exact call52) H H (sx_Levels N.bu N.cl N.ro N.key N.sv hN.hsv) (fun _ _ h=>h) RoOk.nil H<|Mx.r 3 H<|Mx.nil ?_
    exact J.r0 H H ⟨by have hlev_:=hN.hlev;clear hN;simp_all [vOf,Nd.rightQ],rfl⟩
   have p8:=of_decide_eq_false h6
   refine Mx.gq (t:=21) H H H h6 H (Pu.qt (Pu.move H)) H<|Mx.gq (t:=21) H H H h6 H (Pu.qt (Pu.fieldAddr (off':=1) U41 H Z3 H H H)) H<|Mx.gq (t:=21) H H H h6 H (Qt.lv 0 A3 H H H) H<|Mx.gcall (vs:=[.pointer (some ⟨N.n,0,none⟩),.int .i64 fr]) (caps:=[]) (t:=21) H H H h6 H (by exact call92) H H (nw_isS N now ver many calls fr) (fun _ _ h=>h) (RoOk.ro 0 H [] H (RoOk.ro 1 H [] H RoOk.nil)) H<|Mx.gq (t:=17) H H H h4 H (Pu.qt (Pu.pickF H h6 H)) H<|Mx.p H (Pu.pickT H h4 H) H<|Mx.r 1 H ?_
   refine by_bool (Nd.isS N fr) (fun h9=>?_) (fun h9=>?_)
   ·
    refine Mx.gq (t:=28) H H H h9 H (Pu.qt (Pu.fieldAddr (off':=3) U41 H Z3 H H H)) H<|Mx.gq (t:=28) H H H h9 H (Qt.lv 0 A3 H H H) H<|Mx.gq (t:=28) H H H h9 H (Pu.qt (Pu.move H)) H<|Mx.gq (t:=28) H H H h9 H (Pu.qt (Pu.nilCheck H)) H<|Mx.gq (t:=28) H H H h9 H (Pu.qt (Pu.fieldAddr (off':=1) U90 H Z25 H H H)) H<|Mx.gq (t:=28) H H H h9 H (Qt.lwa 0 A25 Z25 H H H) H<|Mx.gcall (vs:=[.agg #[.int .i64 N.bu,.int .i64 N.cl,.int .i64 N.ro,.int .u64 (Nat.cast N.key:Int),N.sv]]) (caps:=[]) (t:=28) H H H h9 H (by exact call52) H H (sx_Levels N.bu N.cl N.ro N.key N.sv hN.hsv) (fun _ _ h=>h) RoOk.nil H<|Mx.gq (t:=28) H H H h9 H (Pu.qt (Pu.lss H H)) H<|Mx.p H (Pu.pickT H h9 H) H<|Mx.r 1 H<|Mx.nil ?_
    exact J.r0 H H ⟨by have hlev_:=hN.hlev;clear hN;simp_all [vOf,Nd.rightQ],rfl⟩
   refine Mx.gskip (t:=28) H H H (no_bool (by rw [h9];decide)) H H<|Mx.gskip (t:=28) H H H (no_bool (by rw [h9];decide)) H H<|Mx.gskip (t:=28) H H H (no_bool (by rw [h9];decide)) H H<|Mx.gskip (t:=28) H H H (no_bool (by rw [h9];decide)) H H<|Mx.gskip (t:=28) H H H (no_bool (by rw [h9];decide)) H H<|Mx.gskip (t:=28) H H H (no_bool (by rw [h9];decide)) H H<|Mx.gskip (t:=28) H H H (no_bool (by rw [h9];decide)) H H<|Mx.gskip (t:=28) H H H (no_bool (by rw [h9];decide)) H H<|Mx.p H (Pu.pickF H h9 H) H<|Mx.r 1 H<|Mx.nil ?_
   exact J.r0 H H ⟨by have hlev_:=hN.hlev;clear hN;simp_all [vOf,Nd.rightQ],rfl⟩
  have p10:=of_decide_eq_false h4
  refine Mx.gskip (t:=17) H H H (no_bool (by rw [h4];decide)) H H<|Mx.gskip (t:=17) H H H (no_bool (by rw [h4];decide)) H H<|Mx.gskip (t:=17) H H H (no_bool (by rw [h4];decide)) H H<|Mx.gskip (t:=17) H H H (no_bool (by rw [h4];decide)) H H<|Mx.r 4 H<|Mx.gskip (t:=17) H H H (no_bool (by rw [h4];decide)) H H<|Mx.p H (Pu.pickF H h4 H) H<|Mx.r 11 H<|Mx.nil ?_
  exact J.r0 H H ⟨by have hlev_:=hN.hlev;clear hN;simp_all [vOf,Nd.rightQ],rfl⟩
 have p11:=of_decide_eq_false h2
 refine Mx.gskip (t:=8) H H H (no_bool (by rw [h2];decide)) H H<|Mx.gskip (t:=8) H H H (no_bool (by rw [h2];decide)) H H<|Mx.gskip (t:=8) H H H (no_bool (by rw [h2];decide)) H H<|Mx.gskip (t:=8) H H H (no_bool (by rw [h2];decide)) H H<|Mx.gskip (t:=8) H H H (no_bool (by rw [h2];decide)) H H<|Mx.gskip (t:=8) H H H (no_bool (by rw [h2];decide)) H H<|Mx.gskip (t:=8) H H H (no_bool (by rw [h2];decide)) H H<|Mx.p H (Pu.pickF H h2 H) H<|Mx.r 22 H<|Mx.nil ?_
 exact J.r0 H H ⟨by have hlev_:=hN.hlev;clear hN;simp_all [vOf,Nd.rightQ],rfl⟩
theorem nw_comes (N:Nd.Nc) (now ver many calls:Int) (k:Nd.Kt) (id fr to level dl bu:Int):Tri prog 82 #[.pointer (some ⟨N.n,0,none⟩),.agg #[.int .i64 id,.int .i64 fr,.int .i64 to,.int .i64 level,.int .i64 dl,.int .i64 bu]] [var N.n (Nd.nC N now ver many calls) 90,ct N k] [] (fun v L'=>v=.int .i64 (Nd.comes now k.thr level dl)∧L'=[]):=by
 refine Tri.en func82 H ntmps82 H fun w0=>J.co 2 H<|O.l (Lo.bx H H) H ?_
 rintro _ _ ⟨g1,rfl,rfl⟩
 refine O.oc 5 H<|J.drawStill Tryz.mixed (by kernel_rfl)<|S.r 1 H<|S.q (Qt.lv 0 A3 H H H) H<|S.r 3 H<|S.q (Qt.lw 0 A3 H H H) H<|S.r 2 H<|S.endJ ?_
 refine J.cd H (fun p2=>?_) (fun p2=>?_)
 ·
  refine J.cc 4 H ?_
  exact J.r0 H H ⟨by simp [vOf,Nd.comes, *],rfl⟩
 refine J.seq<|J.drawTail 6 Tryz.mixed (by kernel_rfl)<|S.r 3 H<|S.q (Qt.lw 0 A82 H H H) H<|S.r 1 H<|S.q (Qt.lv 0 A3 H H H) H<|S.endO<|O.l (Lo.ca call179 (ct_Passes N k level) [] H H (.ro 1 H .nil)) H ?_
 rintro _ _ ⟨_,⟨rfl,rfl⟩,rfl⟩
 refine O.oc 3 H ?_
 refine J.cond H (fun h4=>?_) (fun h4=>?_)
 ·
  have h5:(Sh.passes level k.thr)=false:=not_flip h4
  refine J.cc 4 H ?_
  exact J.r0 H H ⟨by simp [vOf,Nd.comes, *],rfl⟩
 have h6:(Sh.passes level k.thr)=true:=not_flip h4
 refine J.cc 6 H ?_
 exact J.r0 H H ⟨by simp [vOf,Nd.comes, *],rfl⟩
theorem nw_twice (N:Nd.Nc) (Z:Nd.Sx) (id:Int) (hN:N.Ok) (hS:Z.Ok N):Tri prog 79 #[.pointer (some ⟨N.n,0,none⟩),.int .i64 id] [var N.n (Nd.nC N Z.now Z.ver Z.many Z.calls) 90,qu N Z.q,mi N.jb Nd.jobV Z.jm] [se N Z.sn] (fun v L'=>∃ s',s'.Ok∧(∀ k,(getI s'.m k).isSome=true→k=id∨(getI Z.sn.m k).isSome=true)∧v=.bool (Nd.twiceB Z id)∧L'=[se N s']):=by
 refine Tri.en func79 H ntmps79 H fun w0=>J.cc 5 H ?_
 refine by_bool ((getI Z.jm id).isSome) (fun h1=>?_) (fun h1=>?_)
 ·
  obtain ⟨j,hj⟩:=Option.isSome_iff_exists.1 h1
  refine J.co 4 H<|O.q (Qt.lw 0 A86 H H H) H<|O.oo 1 H<|O.q (Qt.lkOk (V:=.agg #[.int .i64 j.x.id,.int .i64 j.x.level,.int .i64 j.x.from_,.int .i64 j.x.deadline,.int .i64 j.x.budget,.int .i64 j.x.since,.int .i64 j.x.seq,.int .i64 j.ph,j.v]) (q:=true) N86 N3 Y68 H H (Mc.ro 2 N.jb H H) (by rw [hj];rfl) (by rw [hj];rfl)) H<|O.oo 3 H<|O.l (Lo.al Y68 H) H ?_
  rintro _ _ ⟨g2,rfl,rfl⟩
  refine O.l0 (Lo.st 0 Z68 H H H H H (by simp only [List.all_cons,List.all_nil,Bool.and_true,(hS.i.j.one hj)]<;>rfl) H) ?_
  rintro _ _ rfl
  refine O.oc 24 H ?_
  exact J.r1 [1] H H H ⟨Z.sn,hS.sn,(fun _ h_=>.inr h_),(by simp [vOf,Nd.twiceB,hj, *]),H⟩
 have hj:getI Z.jm id=none:=by simpa using h1
 refine J.co 4 H<|O.q (Qt.lw 0 A86 H H H) H<|O.oo 1 H<|O.q (Qt.lkOk (V:=.agg #[.int .i64 0,.int .i64 0,.int .i64 0,.int .i64 0,.int .i64 0,.int .i64 0,.int .i64 0,.int .i64 0,Value.slice none 0 0]) (q:=false) N86 N3 Y68 H H (Mc.ro 2 N.jb H H) (by rw [hj];rfl) (by rw [hj];rfl)) H<|O.oo 3 H<|O.l (Lo.al Y68 H) H ?_
 rintro _ _ ⟨g3,rfl,rfl⟩
 refine O.l0 (Lo.st 0 Z68 H H H H H H H) ?_
 rintro _ _ rfl
 refine O.oo 9 H<|O.gz (Qt.lw 0 A84 H H H) H H<|O.oo 1 H<|O.gy (Lo.ca call176 (qw_Has N Z.q id hN hS.q) [] H H (.ro 1 H .nil)) H H ?_
 rintro _ _ ⟨_,⟨rfl,rfl⟩,rfl⟩
 refine O.oo 2 H ?_
 refine O.sp 25 H (fun h5=>?_) (fun h5=>?_)
 ·
  refine O.oc 10 H ?_
  exact J.r1 [1] H H H ⟨Z.sn,hS.sn,(fun _ h_=>.inr h_),(by simp [vOf,Nd.twiceB,hj, *]),H⟩
 refine O.oo 3 H<|O.gz (Qt.lw 0 isAgg83 H H H) H H<|O.oo 1 H<|O.gy (Lo.ca call177 (sn_Note N Z.sn id hS.sn) [1] H H .nil) H H ?_
 rintro _ _ ⟨_,⟨sn6,hsn7,hmem8,rfl,rfl⟩,rfl⟩
 refine O.oc 4 H ?_
 exact J.r1 [0] H H H ⟨sn6,hsn7,hmem8,(by simp [vOf,Nd.twiceB,hj, *]),H⟩
def ndA (N:Nd.Nc) (Z:Nd.Sx):List Sp:=[var N.n (Nd.nC N Z.now Z.ver Z.many Z.calls) 90,ct N Z.k,qu N Z.q,sl N Z.ps,mi N.jb Nd.jobV Z.jm,bun (Nd.nRows 3 Z.jm),wt 195 N.w Z.ws,se N Z.sn,var N.tb (Sh.tbC N.ttl Z.d) 215,row N.cv 136 4 (N.calls.map Cl.cells),row N.sv 56 14 (N.svs.map Sg.cells)]
def tlA (N:Nd.Nc) (t:Nat) (EV FV:Value) (evs:List Ev) (frs:List Fr):List Sp:=[var t [.pointer (some ⟨N.n,0,none⟩),EV,FV] 261,row EV 51 7 (evs.map Ev.cells),row FV 62 23 (frs.map Fr.cells)]
def OutC (N:Nd.Nc) (t:Nat) (R:Nd.Sx→List Ev→List Fr→Int→Prop) (v:Value) (L':List Sp):Prop:=∃ S' EV FV es fs e,R S' es fs e∧v=.int .i64 e∧L'=tlA N t EV FV es fs++ndA N S'
def OutS (N:Nd.Nc) (R:Nd.Sx→List Ev→List Fr→Int→Prop) (v:Value) (L':List Sp):Prop:=∃ S' EV FV es fs e,R S' es fs e∧v=.tuple #[.agg #[EV,FV],.int .i64 e]∧L'=[row EV 51 7 (es.map Ev.cells),row FV 62 23 (fs.map Fr.cells)]++ndA N S'
theorem nw_step (N:Nd.Nc) (Z:Nd.Sx) (f:FuncId) (caps:List Value) (Ro:List Sp) (R:Nd.Sx→List Ev→List Fr→Int→Prop) (hc:∀ args w,(callFunc f args).run prog w=.ok (.enter f args) w) (hdo:∀ t:Nat,Tri prog f ([Value.pointer (some ⟨t,0,none⟩)]++caps).toArray Ro (tlA N t (.slice none 0 0) (.slice none 0 0) [] []++ndA N Z) (OutC N t R)) (hR:∀ S' es fs e,R S' es fs e→e≠0→es=[]∧fs=[]):Tri prog 76 #[.pointer (some ⟨N.n,0,none⟩),.func (.func f) #[] caps.toArray] (Ro) (ndA N Z) (fun v L'=>OutS N R v L'):=by
 refine Tri.en func76 H ntmps76 H fun w0=>J.co 2 H<|O.l (Lo.al Y36 H) H ?_
 rintro _ _ ⟨g1,rfl,rfl⟩
 refine O.oo 6 H<|O.l (Lo.ca call39 (nw_made N Z.now Z.ver Z.many Z.calls) [] H H (.own 1 H H .nil)) H ?_
 rintro _ _ ⟨_,⟨rfl,rfl⟩,rfl⟩
 refine O.oo 7 H<|O.p (Pu.build [(0,.pointer (some ⟨N.n,0,none⟩))] [.pointer (some ⟨N.n,0,none⟩),Value.slice none 0 0,Value.slice none 0 0] #[(0,1),(1,2)] runUnderlying261 zeroValue261 (places261 underlying261) H (by kernel_rfl)) H<|O.l (Lo.bx H H) H ?_
 rintro _ _ ⟨g3,rfl,rfl⟩
 refine O.oc 4 H<|J.nr 51 7 (([]:List Ev).map Ev.cells) H<|J.nr 62 23 (([]:List Fr).map Fr.cells) H<|J.co 3 H<|O.l (Lo.callV (vs:=[.pointer (some ⟨g3,0,none⟩)]) (caps:=caps) hc H H (hdo g3) [2,1,0,4,5,6,7,8,9,10,11,12,13,14] [3] (by decide) H [var g1 [Value.slice none 0 0,Value.slice none 0 0] 36] H (RoOk.sub (fun _ hA=>hA) [2,1,0,4,5,6,7,8,9,10,11,12,13,14] H)) H ?_
 rintro _ _ ⟨_,⟨S1,E1,F1,es1,fs1,e1,hR1,rfl,rfl⟩,rfl⟩
 refine O.oc 7 H ?_
 refine J.cd H (fun p5=>?_) (fun p5=>?_)
 ·
  refine J.co 2 H<|O.p (Pu.build [] [Value.slice none 0 0,Value.slice none 0 0] #[(0,1),(1,1)] runUnderlying36 Y36 (places36 underlying36) H (by kernel_rfl)) H<|O.oo 1 H<|O.l0 (Lo.st 14 Z36 H H H H H H H) ?_
  rintro _ _ rfl
  refine O.oc 2 H<|J.nr 51 7 (([]:List Ev).map Ev.cells) H<|J.nr 62 23 (([]:List Fr).map Fr.cells) H ?_
  exact J.rn [_,_] [1,0,5,6,7,8,9,10,11,12,13,14,15] H ⟨⟨_,_,0,0,_,H,(Cel.var 16 H),H,(Cut.agg [Value.slice none 0 0,Value.slice none 0 0] A36 Z36 H H)⟩,H,trivial⟩ H ⟨S1,_,_,_,_,e1,(by obtain ⟨h1_,h2_⟩:=hR _ _ _ _ hR1 (by assumption);rw [h1_,h2_] at hR1;exact hR1),H,H⟩
 refine J.co 6 H<|O.q (Qt.lva 0 A36 Z36 H H H) H ?_
 refine O.one (Src.row 1 H) (fun hV6=>?_)
 refine O.one (Src.row 2 H) (fun hV7=>?_)
 refine O.l0 (Lo.st 14 Z36 H H H H H (by simp only [List.all_cons,List.all_nil,Bool.and_true,hV6,hV7]<;>rfl) H) ?_
 rintro _ _ rfl
 refine O.oc 2 H ?_
 exact J.rn [_,_] [1,2,3,4,5,6,7,8,9,10,11,12,13] H ⟨⟨_,_,0,0,_,H,(Cel.var 14 H),H,(Cut.agg [E1,F1] A36 Z36 H H)⟩,H,trivial⟩ H ⟨S1,_,_,_,_,0,(by have h_:e1=0:=(by omega);rw [h_] at hR1;exact hR1),H,H⟩
end Go.Proofs.YtohjlkjhpibkmaaGreatDoor
