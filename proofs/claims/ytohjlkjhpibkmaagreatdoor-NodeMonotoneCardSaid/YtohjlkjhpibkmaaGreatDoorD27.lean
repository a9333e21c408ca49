/-
  Rules and plain laws that the walks use.
-/
import Derived.KernelRfl
import Derived.Test.YtohjlkjhpibkmaaGreatDoorD26
import Derived.Test.YtohjlkjhpibkmaaGreatDoorD03
import Derived.Test.YtohjlkjhpibkmaaGreatDoorD24
set_option linter.unusedSimpArgs false
set_option linter.unusedVariables false
namespace Go.Proofs.YtohjlkjhpibkmaaGreatDoor
open Go Go.LK Go.Proofs.Tryz
set_option maxRecDepth 100000
set_option maxHeartbeats 4000000
def nwK (lev tiers m0 m1 m2 m3 m4 m5 m6:Int):Nd.Kt:=⟨m0,m1,m2,m3,m4,m5,m6,lev,1,0,0,tiers,32,0,0,0,List.replicate 128 0⟩
def nwA (N:Nd.Nc) (k:Nd.Kt) (s:Nd.Sn) (ws:Ws):List Sp:=var N.n (Nd.nC N 0 0 0 0) 90 :: (ctL N k++(quL N ⟨.slice none 0 0,[],[]⟩++((var N.s ([Value.int .i64 N.wk]++(List.replicate 16 none:Nd.Pl).map Nd.sP) 210) :: (seL N s++[mi N.jb Nd.jobV [],wt 195 N.w ws,var N.tb (Sh.tbC N.ttl Sh.nil) 215,row N.cv 136 4 (N.calls.map Cl.cells),row N.sv 56 14 (N.svs.map Sg.cells)]))))
theorem nw_NewRaw (b c r:Int) (kn:Nat) (sv:Value) (l:List Sg) (self:Int) (hsv:Value.oneCell' sv=true) (hl:l.length≤1000) (hc:∀ s∈l,s.cl.length≤1000) (hchk:Si.chk b c r l=0) (h0:0≤self) (h1:self < (l.length:Int)):Tri prog 23 #[.agg #[.int .i64 b,.int .i64 c,.int .i64 r,.int .u64 (Nat.cast kn:Int),sv],.int .i64 self] [rd sv 14 (l.map Sg.cells),ros (l.map Sg.rd)] [] (fun v L'=>∃ (N:Nd.Nc) (s:Nd.Sn) (ws:Ws) (e:Sg),l[self.toNat]?=some e∧Nd.NewF b c l e∧Wt.Rep [] ws∧(s.ring.length:Int)=e.x4∧s.f=0∧s.n=0∧s.m=[]∧Value.oneCell' N.sv=true∧Value.oneCell' N.cv=true∧(N.svs=l∧N.self=self∧N.lev=Si.mulC b c∧N.wk=e.x0∧N.qn=e.x1∧N.win=e.x2∧N.tiers=e.x3∧N.se=e.x4∧N.ttl=e.x5∧N.calls=e.cl∧N.bu=b∧N.cl=c∧N.ro=r∧N.key=kn)∧v=.tuple #[.pointer (some ⟨N.n,0,none⟩),.int .i64 0]∧L'=nwA N (nwK N.lev N.tiers e.x6 e.x7 e.x8 e.x9 e.x10 e.x11 e.x12) s ws):=by
 obtain ⟨e,he⟩:∃ e,l[self.toNat]?=some e:=⟨_,List.getElem?_eq_getElem (by omega)⟩
 have hf:=Nd.new_facts hchk h0 h1 he
 refine Tri.en func23 H ntmps23 H fun w0=>J.co 2 H<|O.l (Lo.bx H H) H ?_
 rintro _ _ ⟨g1,rfl,rfl⟩
 refine O.oo 6 H<|O.q (Qt.lva 0 A25 Z25 H H H) H<|O.l (Lo.ca call49 (si_Check b c r kn sv l hl hc) [] H H (.ro 0 H (.ro 1 H .nil))) H ?_
 rintro _ _ ⟨_,⟨rfl,rfl⟩,rfl⟩
 refine O.oc 7 H<|J.condF H (decide_eq_false (fun h_=>h_ hchk))<|J.co 7 H<|O.kf 15 H (decide_eq_false (by omega))<|O.oo 2 H<|O.gz (Qt.lv 0 A23 H H H) H H<|O.gz (Qt.lenM U23 H (Src.ro 0 H)) H H<|O.oc 3 H<|J.condF H (decide_eq_false (by omega))<|J.cc 2 H<|J.drawA Tryz.mixed ?_
 refine A.edge 7 8 H ?_ ?_
 ·
  refine A.mx [(0,false),(1,false),(2,false),(3,false),(4,false),(5,false),(6,false),(8,true),(7,true),(9,false),(10,true),(11,false)] [0] (by kernel_rfl) H<|Mx.q H (Qt.lva 0 A25 Z25 H H H) H<|Mx.r 2 H<|Mx.q H (Qt.lv 0 A23 H H H) H<|Mx.r 1 H<|Mx.q H (Qt.ix U23 Z56 H (Src.ro 0 H) he H (by omega)) H<|Mx.q H (Qt.lea A56 Z56 (Src.ro 0 H) he 0 H (by omega) H) H<|Mx.l H (Lo.ca call50 wt_New [] H H .nil) H ?_
  rintro _ _ ⟨_,⟨g3,ws4,rfl,rfl,hr5⟩,rfl⟩
  refine MxK.gp [1] [0] H H<|Mx.l H (Lo.makeMapI Nd.jobV) H ?_
  rintro _ _ ⟨b7,rfl,rfl⟩
  refine MxK.gp [2] [0] H H<|Mx.p H (Pu.build [(1,.agg #[.int .i64 b,.int .i64 c,.int .i64 r,.int .u64 (Nat.cast kn:Int),sv]),(2,.int .i64 self),(3,.agg #[.int .i64 e.x0,.int .i64 e.x1,.int .i64 e.x2,.int .i64 e.x3,.int .i64 e.x4,.int .i64 e.x5,.int .i64 e.x6,.int .i64 e.x7,.int .i64 e.x8,.int .i64 e.x9,.int .i64 e.x10,.int .i64 e.x11,.int .i64 e.x12,e.cv]),(11,.map (some b7)),(12,.pointer (some ⟨g3,0,none⟩))] [Value.pointer none,.int .i64 b,.int .i64 c,.int .i64 r,.int .u64 (Nat.cast kn:Int),sv,.int .i64 self,.int .i64 e.x0,.int .i64 e.x1,.int .i64 e.x2,.int .i64 e.x3,.int .i64 e.x4,.int .i64 e.x5,.int .i64 e.x6,.int .i64 e.x7,.int .i64 e.x8,.int .i64 e.x9,.int .i64 e.x10,.int .i64 e.x11,.int .i64 e.x12,e.cv,.int .i64 0,.int .i64 0,.int .i64 0,.int .i64 0,Value.pointer none,Value.pointer none,Value.pointer none,.map (some b7),.pointer (some ⟨g3,0,none⟩),Value.pointer none] #[(0,1),(1,5),(6,1),(7,14),(21,1),(22,1),(23,1),(24,1),(25,1),(26,1),(27,1),(28,1),(29,1),(30,1)] U90 zeroValue90 (places90 underlying90) H (by cases e.cv<;>first|(simp [Value.oneCell'] at e.ok;done)|(cases sv<;>first|(simp [Value.oneCell'] at hsv;done)|(kernel_rfl;done);done))) H<|Mx.l H (Lo.bx H H) H ?_
  rintro _ _ ⟨g8,rfl,rfl⟩
  refine MxK.gp [3] [0] H H<|Mx.r 1 H<|Mx.nil<|J.co 3 H<|O.l (Lo.buildE Sg.cells U23 Z56) H ?_
  rintro V9 _ rfl
  refine O.oo 1 H<|O.q (Qt.lv 4 A23 H H H) H<|O.l (Lo.am 0 N23 info56 H H H H H (Src.ro 0 H) Sg.one (by first|omega|(have h1_:=hf.n8;have h2_:=hf.cl;simp only [List.length_append,List.length_nil];omega)) (by first|omega|(have h1_:=hf.n8;have h2_:=hf.cl;simp only [List.length_append,List.length_nil];omega))) H ?_
  rintro V10 _ rfl
  refine O.oo 3 H ?_
  refine O.one (Src.row 0 H) (fun hV11=>?_)
  refine O.l0 (Lo.so 1 Z23 hV11 H H H H) ?_
  rintro _ _ rfl
  refine O.oc 2 H<|J.ros 1 H (A:=rd e.cv 4 (e.cl.map Cl.cells)) (List.mem_map.2 ⟨e,List.mem_of_getElem? he,H⟩)<|J.co 2 H<|O.l (Lo.buildE Cl.cells U54 Z136) H ?_
  rintro V12 _ rfl
  refine O.oo 4 H<|O.q (Qt.lv 2 A54 H H H) H<|O.l (Lo.am 0 underlying54 info136 H H H H H (Src.ro 2 H) Cl.one (by first|omega|(have h1_:=hf.n8;have h2_:=hf.cl;simp only [List.length_append,List.length_nil];omega)) (by first|omega|(have h1_:=hf.n8;have h2_:=hf.cl;simp only [List.length_append,List.length_nil];omega))) H ?_
  rintro V13 _ rfl
  refine O.oo 3 H ?_
  refine O.one (Src.row 0 H) (fun hV14=>?_)
  refine O.l0 (Lo.so 2 sizeOf54 hV14 H H H H) ?_
  rintro _ _ rfl
  refine O.oc 2 H<|J.dm [(0,false),(1,false),(2,false),(3,false),(4,false),(5,false),(6,false),(7,false),(8,false),(9,false),(10,false),(11,false),(12,false),(13,true),(14,false),(15,false),(16,false),(17,false),(18,false),(19,true)] [2,5] Tryz.mixed (by kernel_rfl) H<|Mx.r 1 H<|Mx.q H (Qt.lva 1 A25 Z25 H H H) H<|Mx.call (vs:=[.agg #[.int .i64 b,.int .i64 c,.int .i64 r,.int .u64 (Nat.cast kn:Int),sv]]) (caps:=[]) H (by exact call52) H H (sx_Levels b c r kn sv hsv) (fun _ _ h=>h) RoOk.nil H<|Mx.r 4 H<|Mx.q H (Qt.lv 0 A3 H H H) H<|Mx.r 4 H<|Mx.q H (Qt.lva 0 A45 Z45 H H H) H<|Mx.l H (Lo.ca call51 (co_New (Si.mulC b c) e.x3 e.x6 e.x7 e.x8 e.x9 e.x10 e.x11 e.x12 hf.bc0 hf.bc1 hf.t0 hf.t1 hf.kn) [] H H .nil) H ?_
  rintro _ _ ⟨_,⟨g15,g16,g17,g18,g19,rfl,rfl⟩,rfl⟩
  refine MxK.al [7,10] H (by kernel_rfl)<|Mx.r 5 H<|Mx.l0 H (Lo.st 7 sizeOf82 H H H H H H H) ?_
  rintro _ _ rfl
  refine MxK.al [7,10] H (by kernel_rfl)<|Mx.nil<|J.co 7 H<|O.q (Qt.lv 7 A3 H H H) H<|O.l (Lo.ca call53 (se_New e.x4 hf.s0 hf.s1) [] H H .nil) H ?_
  rintro _ _ ⟨_,⟨g21,b22,R23,ring24,rfl,hring25,rfl⟩,rfl⟩
  refine O.oo 5 H<|O.l0 (Lo.st 10 sizeOf83 H H H H H H H) ?_
  rintro _ _ rfl
  refine O.oo 8 H<|O.q (Qt.lv 10 A3 H H H) H<|O.l (Lo.ca call54 (qu_New e.x1 hf.q0 hf.q1) [] H H .nil) H ?_
  rintro _ _ ⟨_,⟨g27,g28,b29,rfl,rfl⟩,rfl⟩
  refine O.oo 5 H<|O.l0 (Lo.st 14 sizeOf84 H H H H H H H) ?_
  rintro _ _ rfl
  refine O.oo 8 H<|O.q (Qt.lv 14 A3 H H H) H<|O.l (Lo.ca call55 (sl_New e.x0 hf.w0 hf.w1) [] H H .nil) H ?_
  rintro _ _ ⟨_,⟨g31,rfl,rfl⟩,rfl⟩
  refine O.oo 5 H<|O.l0 (Lo.st 15 sizeOf85 H H H H H H H) ?_
  rintro _ _ rfl
  refine O.oo 8 H<|O.q (Qt.lv 15 A3 H H H) H<|O.l (Lo.ca call56 (tb_New e.x5 (by have h1_:=hf.l0;have h2_:=hf.l1;simp [Sh.bad];omega)) [] H H .nil) H ?_
  rintro _ _ ⟨_,⟨g33,rfl,rfl⟩,rfl⟩
  refine O.oo 5 H<|O.l0 (Lo.st 16 sizeOf88 H H H H H H H) ?_
  rintro _ _ rfl
  refine O.oc 7 H ?_
  refine J.one (Src.row 15 H) (fun hSV=>?_)
  refine J.one (Src.row 14 H) (fun hCV=>?_)
  exact J.rn [_,_] [16,9,10,11,12,13,2,3,4,5,1,6,7,8,17,18,0,14,15] H ⟨H,H,trivial⟩ H ⟨⟨g8,g15,g16,g17,g18,g19,g21,b22,g27,g28,b29,g31,b7,g3,g33,b,c,r,kn,V10,l,self,e.x0,e.x1,e.x2,e.x3,e.x4,e.x5,e.x6,e.x7,e.x8,e.x9,e.x10,e.x11,e.x12,V13,e.cl,Si.mulC b c⟩,⟨R23,0,0,ring24,[]⟩,ws4,e,he,hf,hr5,hring25,H,H,H,hSV,hCV,⟨H,H,H,H,H,H,H,H,H,H,H,H,H,H⟩,H,H⟩
 refine A.mx [(0,false),(1,false),(2,false),(3,false),(4,false),(5,false),(6,false),(7,true),(8,true),(9,false),(10,true),(11,false)] [0] (by kernel_rfl) H<|Mx.q H (Qt.lva 0 A25 Z25 H H H) H<|Mx.r 2 H<|Mx.q H (Qt.lv 0 A23 H H H) H<|Mx.r 1 H<|Mx.q H (Qt.ix U23 Z56 H (Src.ro 0 H) he H (by omega)) H<|Mx.q H (Qt.lea A56 Z56 (Src.ro 0 H) he 0 H (by omega) H) H<|Mx.l H (Lo.makeMapI Nd.jobV) H ?_
 rintro _ _ ⟨b35,rfl,rfl⟩
 refine MxK.gp [1] [0] H H<|Mx.l H (Lo.ca call50 wt_New [] H H .nil) H ?_
 rintro _ _ ⟨_,⟨g36,ws37,rfl,rfl,hr38⟩,rfl⟩
 refine MxK.gp [2] [0] H H<|Mx.p H (Pu.build [(1,.agg #[.int .i64 b,.int .i64 c,.int .i64 r,.int .u64 (Nat.cast kn:Int),sv]),(2,.int .i64 self),(3,.agg #[.int .i64 e.x0,.int .i64 e.x1,.int .i64 e.x2,.int .i64 e.x3,.int .i64 e.x4,.int .i64 e.x5,.int .i64 e.x6,.int .i64 e.x7,.int .i64 e.x8,.int .i64 e.x9,.int .i64 e.x10,.int .i64 e.x11,.int .i64 e.x12,e.cv]),(11,.map (some b35)),(12,.pointer (some ⟨g36,0,none⟩))] [Value.pointer none,.int .i64 b,.int .i64 c,.int .i64 r,.int .u64 (Nat.cast kn:Int),sv,.int .i64 self,.int .i64 e.x0,.int .i64 e.x1,.int .i64 e.x2,.int .i64 e.x3,.int .i64 e.x4,.int .i64 e.x5,.int .i64 e.x6,.int .i64 e.x7,.int .i64 e.x8,.int .i64 e.x9,.int .i64 e.x10,.int .i64 e.x11,.int .i64 e.x12,e.cv,.int .i64 0,.int .i64 0,.int .i64 0,.int .i64 0,Value.pointer none,Value.pointer none,Value.pointer none,.map (some b35),.pointer (some ⟨g36,0,none⟩),Value.pointer none] #[(0,1),(1,5),(6,1),(7,14),(21,1),(22,1),(23,1),(24,1),(25,1),(26,1),(27,1),(28,1),(29,1),(30,1)] U90 zeroValue90 (places90 underlying90) H (by cases e.cv<;>first|(simp [Value.oneCell'] at e.ok;done)|(cases sv<;>first|(simp [Value.oneCell'] at hsv;done)|(kernel_rfl;done);done))) H<|Mx.l H (Lo.bx H H) H ?_
 rintro _ _ ⟨g40,rfl,rfl⟩
 refine MxK.gp [3] [0] H H<|Mx.r 1 H<|Mx.nil<|J.co 3 H<|O.l (Lo.buildE Sg.cells U23 Z56) H ?_
 rintro V41 _ rfl
 refine O.oo 1 H<|O.q (Qt.lv 4 A23 H H H) H<|O.l (Lo.am 0 N23 info56 H H H H H (Src.ro 0 H) Sg.one (by first|omega|(have h1_:=hf.n8;have h2_:=hf.cl;simp only [List.length_append,List.length_nil];omega)) (by first|omega|(have h1_:=hf.n8;have h2_:=hf.cl;simp only [List.length_append,List.length_nil];omega))) H ?_
 rintro V42 _ rfl
 refine O.oo 3 H ?_
 refine O.one (Src.row 0 H) (fun hV43=>?_)
 refine O.l0 (Lo.so 1 Z23 hV43 H H H H) ?_
 rintro _ _ rfl
 refine O.oc 2 H<|J.ros 1 H (A:=rd e.cv 4 (e.cl.map Cl.cells)) (List.mem_map.2 ⟨e,List.mem_of_getElem? he,H⟩)<|J.co 2 H<|O.l (Lo.buildE Cl.cells U54 Z136) H ?_
 rintro V44 _ rfl
 refine O.oo 4 H<|O.q (Qt.lv 2 A54 H H H) H<|O.l (Lo.am 0 underlying54 info136 H H H H H (Src.ro 2 H) Cl.one (by first|omega|(have h1_:=hf.n8;have h2_:=hf.cl;simp only [List.length_append,List.length_nil];omega)) (by first|omega|(have h1_:=hf.n8;have h2_:=hf.cl;simp only [List.length_append,List.length_nil];omega))) H ?_
 rintro V45 _ rfl
 refine O.oo 3 H ?_
 refine O.one (Src.row 0 H) (fun hV46=>?_)
 refine O.l0 (Lo.so 2 sizeOf54 hV46 H H H H) ?_
 rintro _ _ rfl
 refine O.oc 2 H<|J.dm [(0,false),(1,false),(2,false),(3,false),(4,false),(5,false),(6,false),(7,false),(8,false),(9,false),(10,false),(11,false),(12,false),(13,true),(14,false),(15,false),(16,false),(17,false),(18,false),(19,true)] [2,5] Tryz.mixed (by kernel_rfl) H<|Mx.r 1 H<|Mx.q H (Qt.lva 1 A25 Z25 H H H) H<|Mx.call (vs:=[.agg #[.int .i64 b,.int .i64 c,.int .i64 r,.int .u64 (Nat.cast kn:Int),sv]]) (caps:=[]) H (by exact call52) H H (sx_Levels b c r kn sv hsv) (fun _ _ h=>h) RoOk.nil H<|Mx.r 4 H<|Mx.q H (Qt.lv 0 A3 H H H) H<|Mx.r 4 H<|Mx.q H (Qt.lva 0 A45 Z45 H H H) H<|Mx.l H (Lo.ca call51 (co_New (Si.mulC b c) e.x3 e.x6 e.x7 e.x8 e.x9 e.x10 e.x11 e.x12 hf.bc0 hf.bc1 hf.t0 hf.t1 hf.kn) [] H H .nil) H ?_
 rintro _ _ ⟨_,⟨g47,g48,g49,g50,g51,rfl,rfl⟩,rfl⟩
 refine MxK.al [7,10] H (by kernel_rfl)<|Mx.r 5 H<|Mx.l0 H (Lo.st 7 sizeOf82 H H H H H H H) ?_
 rintro _ _ rfl
 refine MxK.al [7,10] H (by kernel_rfl)<|Mx.nil<|J.co 7 H<|O.q (Qt.lv 7 A3 H H H) H<|O.l (Lo.ca call53 (se_New e.x4 hf.s0 hf.s1) [] H H .nil) H ?_
 rintro _ _ ⟨_,⟨g53,b54,R55,ring56,rfl,hring57,rfl⟩,rfl⟩
 refine O.oo 5 H<|O.l0 (Lo.st 10 sizeOf83 H H H H H H H) ?_
 rintro _ _ rfl
 refine O.oo 8 H<|O.q (Qt.lv 10 A3 H H H) H<|O.l (Lo.ca call54 (qu_New e.x1 hf.q0 hf.q1) [] H H .nil) H ?_
 rintro _ _ ⟨_,⟨g59,g60,b61,rfl,rfl⟩,rfl⟩
 refine O.oo 5 H<|O.l0 (Lo.st 14 sizeOf84 H H H H H H H) ?_
 rintro _ _ rfl
 refine O.oo 8 H<|O.q (Qt.lv 14 A3 H H H) H<|O.l (Lo.ca call55 (sl_New e.x0 hf.w0 hf.w1) [] H H .nil) H ?_
 rintro _ _ ⟨_,⟨g63,rfl,rfl⟩,rfl⟩
 refine O.oo 5 H<|O.l0 (Lo.st 15 sizeOf85 H H H H H H H) ?_
 rintro _ _ rfl
 refine O.oo 8 H<|O.q (Qt.lv 15 A3 H H H) H<|O.l (Lo.ca call56 (tb_New e.x5 (by have h1_:=hf.l0;have h2_:=hf.l1;simp [Sh.bad];omega)) [] H H .nil) H ?_
 rintro _ _ ⟨_,⟨g65,rfl,rfl⟩,rfl⟩
 refine O.oo 5 H<|O.l0 (Lo.st 16 sizeOf88 H H H H H H H) ?_
 rintro _ _ rfl
 refine O.oc 7 H ?_
 refine J.one (Src.row 15 H) (fun hSV=>?_)
 refine J.one (Src.row 14 H) (fun hCV=>?_)
 exact J.rn [_,_] [16,9,10,11,12,13,2,3,4,5,1,6,7,8,18,17,0,14,15] H ⟨H,H,trivial⟩ H ⟨⟨g40,g47,g48,g49,g50,g51,g53,b54,g59,g60,b61,g63,b35,g36,g65,b,c,r,kn,V42,l,self,e.x0,e.x1,e.x2,e.x3,e.x4,e.x5,e.x6,e.x7,e.x8,e.x9,e.x10,e.x11,e.x12,V45,e.cl,Si.mulC b c⟩,⟨R55,0,0,ring56,[]⟩,ws37,e,he,hf,hr38,hring57,H,H,H,hSV,hCV,⟨H,H,H,H,H,H,H,H,H,H,H,H,H,H⟩,H,H⟩
theorem nw_New (b c r:Int) (kn:Nat) (sv:Value) (l:List Sg) (self:Int) (hsv:Value.oneCell' sv=true) (hl:l.length≤1000) (hc:∀ s∈l,s.cl.length≤1000) (hnb:Nd.newB b c r l self=true):Tri prog 23 #[.agg #[.int .i64 b,.int .i64 c,.int .i64 r,.int .u64 (Nat.cast kn:Int),sv],.int .i64 self] [rd sv 14 (l.map Sg.cells),ros (l.map Sg.rd)] [] (fun v L'=>∃ N Z e,l[self.toNat]?=some e∧N.Ok∧Z.Ok N∧Nd.Init N Z b c self e∧N.svs=l∧v=.tuple #[.pointer (some ⟨N.n,0,none⟩),.int .i64 0]∧L'=ndA N Z):=by
 obtain ⟨hchk,h0,h1⟩:=Nd.newB_iff.1 hnb
 refine (nw_NewRaw b c r kn sv l self hsv hl hc hchk h0 h1).conv (Re.refl _) ?_
 rintro v L' ⟨N,s,ws,e,he,hf,hr,hrl,hsf,hsn,hsm,hSV,hCV,⟨f1,f2,f3,f4,f5,f6,f7,f8,f9,f10,f11,f12,f13,f14⟩,rfl,rfl⟩
 have hN:N.Ok:=⟨by rw [f3];exact hf.bc0,by rw [f3];exact hf.bc1,by rw [f7];exact hf.t0,by rw [f7];exact hf.t1,by rw [f4];exact hf.w0,by rw [f4];exact hf.w1,by rw [f5];exact hf.q0,by rw [f5];exact hf.q1,by rw [f6];exact hf.i0,by rw [f6];exact hf.i1,by rw [f8];exact hf.s0,by rw [f8];exact hf.s1,by rw [f2];exact h0,by rw [f2,f1];exact h1,by rw [f1];exact hf.n8,by rw [f10];exact hf.cl,hSV,hCV,by rw [f3,f11,f12]⟩
 have hZ:((⟨0,0,0,0,(nwK N.lev N.tiers e.x6 e.x7 e.x8 e.x9 e.x10 e.x11 e.x12),s,⟨.slice none 0 0,[],[]⟩,List.replicate 16 none,[],ws,[],Sh.nil⟩:Nd.Sx)).Ok N:=⟨⟨List.length_replicate,(by have:=hN.hv0;show 0≤N.lev;omega),Int.le_refl _,(show (0:Int)≤1 from by decide),(show (1:Int)≤4294967295 from by decide),(show (-1:Int)≤0 from by decide),(show (0:Int)≤1 from by decide),hN.ht0,Int.le_refl _⟩,⟨(by have:=hf.s1;show s.ring.length≤256;omega),(by show 0≤s.f;omega),(by have:=hf.s0;show s.f < s.ring.length∨s.ring.length=0∧s.f=0;omega),(by show 0≤s.n;omega),(by show s.n≤s.ring.length;omega)⟩,⟨Nd.AtOk.nil,(by have:=hN.hq0;show ((([]:List Im).length:Nat):Int)≤N.qn;simp;omega)⟩,Nd.In.zero hr,(by show ((([]:List Im)++Nd.its (List.replicate 16 none)).map Im.id).Nodup;rw [Nd.its_new];simp),Int.le_refl 0,(show (0:Int)≤1099511627776 from by decide),Int.le_refl 0,Int.le_refl 0⟩
 refine ⟨_,⟨N,(⟨0,0,0,0,(nwK N.lev N.tiers e.x6 e.x7 e.x8 e.x9 e.x10 e.x11 e.x12),s,⟨.slice none 0 0,[],[]⟩,List.replicate 16 none,[],ws,[],Sh.nil⟩:Nd.Sx),e,he,hN,hZ,⟨f2,f3,f4,f5,f7,f10,rfl,rfl,rfl,rfl,rfl,rfl,rfl,rfl,rfl,Nd.its_new,rfl,hsm,hsn,rfl,rfl⟩,f1,rfl,rfl⟩,?_⟩
 refine Re.trans Re.new (Re.trans Re.new (Re.trans (Re.sn [3,4,5,6,7,0,1,2,8,9,10,11,12,13,14,15,16,17,18,19,20] rfl) (Re.trans (Re.bunIn (As:=ctL N (nwK N.lev N.tiers e.x6 e.x7 e.x8 e.x9 e.x10 e.x11 e.x12))) ?_)))
 refine Re.trans (Re.sn [4,5,6,7,0,1,2,3,8,9,10,11,12,13,14,15,16] rfl) (Re.trans (Re.bunIn (As:=quL N ⟨.slice none 0 0,[],[]⟩)) ?_)
 refine Re.trans (Re.sn [5,2,0,1,3,4,6,7,8,9,10,11,12,13] rfl) (Re.trans (Re.bunIn (As:=slL N (List.replicate 16 none))) ?_)
 refine Re.trans (Re.sn [5,6,7,0,1,2,3,4,8,9,10,11,12] rfl) (Re.trans (Re.bunIn (As:=seL N s)) ?_)
 exact Re.sn [5,3,2,1,6,4,7,0,8,9,10] rfl
theorem nw_NewNo (b c r:Int) (kn:Nat) (sv:Value) (l:List Sg) (self:Int) (hsv:Value.oneCell' sv=true) (hl:l.length≤1000) (hc:∀ s∈l,s.cl.length≤1000) (hnb:Nd.newB b c r l self=false):Tri prog 23 #[.agg #[.int .i64 b,.int .i64 c,.int .i64 r,.int .u64 (Nat.cast kn:Int),sv],.int .i64 self] [rd sv 14 (l.map Sg.cells),ros (l.map Sg.rd)] [] (fun v L'=>∃ e:Int,v=.tuple #[.pointer none,.int .i64 e]∧L'=[]):=by
 refine Tri.en func23 H ntmps23 H fun w0=>J.co 2 H<|O.l (Lo.bx H H) H ?_
 rintro _ _ ⟨g1,rfl,rfl⟩
 refine O.oo 6 H<|O.q (Qt.lva 0 A25 Z25 H H H) H<|O.l (Lo.ca call49 (si_Check b c r kn sv l hl hc) [] H H (.ro 0 H (.ro 1 H .nil))) H ?_
 rintro _ _ ⟨_,⟨rfl,rfl⟩,rfl⟩
 refine O.oc 7 H ?_
 refine J.cd H (fun p3=>?_) (fun p3=>?_)
 ·
  refine J.cc 6 H ?_
  exact J.rn [_,_] [] H ⟨H,H,trivial⟩ H ⟨_,H,H⟩
 refine J.co 7 H ?_
 refine O.sd 15 H (fun p4=>?_) (fun p4=>?_)
 ·
  refine O.oc 13 H ?_
  exact J.rn [_,_] [] H ⟨H,H,trivial⟩ H ⟨_,H,H⟩
 refine O.oo 2 H<|O.gz (Qt.lv 0 A23 H H H) H H<|O.gz (Qt.lenM U23 H (Src.ro 0 H)) H H<|O.oc 3 H ?_
 refine J.cd H (fun p5=>?_) (fun p5=>?_)
 ·
  refine J.cc 5 H ?_
  exact J.rn [_,_] [] H ⟨H,H,trivial⟩ H ⟨_,H,H⟩
 exact absurd ((Nd.newB_iff (b:=b) (c:=c) (r:=r) (l:=l) (self:=self)).2 ⟨Decidable.not_not.1 p3,(by have h_:=of_decide_eq_false (decide_eq_false p4);omega),(by have h_:=of_decide_eq_false (decide_eq_false p5);omega)⟩) (by rw [hnb];decide)
theorem l35_begin (b c r:Int) (kn:Nat) (sv:Value) (l:List Sg) (self:Int) (hsv:Value.oneCell' sv=true) (hl:l.length≤1000) (hc:∀ s∈l,s.cl.length≤1000) (hnb:Nd.newB b c r l self=true):Tri prog 11 #[.agg #[.int .i64 b,.int .i64 c,.int .i64 r,.int .u64 (Nat.cast kn:Int),sv],.int .i64 self] [rd sv 14 (l.map Sg.cells),ros (l.map Sg.rd)] [] (fun v L'=>∃ N Z e,l[self.toNat]?=some e∧N.Ok∧Z.Ok N∧Nd.Init N Z b c self e∧N.svs=l∧v=.tuple #[.pointer (some ⟨N.n,0,none⟩),.bool true]∧L'=ndA N Z):=by
 refine Tri.en func11 H ntmps11 H fun w0=>J.co 2 H<|O.l (Lo.bx H H) H ?_
 rintro _ _ ⟨g1,rfl,rfl⟩
 refine O.oo 5 H<|O.q (Qt.lva 0 A25 Z25 H H H) H<|O.oo 1 H<|O.l (Lo.ca call23 (nw_New b c r kn sv l self hsv hl hc hnb) [] H H (.ro 0 H (.ro 1 H .nil))) H ?_
 rintro _ _ ⟨_,⟨N,Z0,e,he,hN,hZ0,hini,hsvs,rfl,rfl⟩,rfl⟩
 refine O.oo 13 H<|O.gz (Pu.qt (Pu.ptrNe N29 H)) H H<|O.oc 4 H ?_
 exact J.rn [_,_] [0,1,2,3,4,5,6,7,8,9,10] H ⟨H,H,trivial⟩ H ⟨N,Z0,e,he,hN,hZ0,hini,hsvs,H,H⟩
theorem l35_beginNo (b c r:Int) (kn:Nat) (sv:Value) (l:List Sg) (self:Int) (hsv:Value.oneCell' sv=true) (hl:l.length≤1000) (hc:∀ s∈l,s.cl.length≤1000) (hnb:Nd.newB b c r l self=false):Tri prog 11 #[.agg #[.int .i64 b,.int .i64 c,.int .i64 r,.int .u64 (Nat.cast kn:Int),sv],.int .i64 self] [rd sv 14 (l.map Sg.cells),ros (l.map Sg.rd)] [] (fun v L'=>v=.tuple #[.pointer none,.bool false]∧L'=[]):=by
 refine Tri.en func11 H ntmps11 H fun w0=>J.co 2 H<|O.l (Lo.bx H H) H ?_
 rintro _ _ ⟨g1,rfl,rfl⟩
 refine O.oo 5 H<|O.q (Qt.lva 0 A25 Z25 H H H) H<|O.oo 1 H<|O.l (Lo.ca call23 (nw_NewNo b c r kn sv l self hsv hl hc hnb) [] H H (.ro 0 H (.ro 1 H .nil))) H ?_
 rintro _ _ ⟨_,⟨e2,rfl,rfl⟩,rfl⟩
 refine O.oo 12 H ?_
 refine O.sd 17 H (fun p4=>?_) (fun p4=>?_)
 ·
  refine O.oo 1 H<|O.gz (Pu.qt (Pu.ptrNeNil N29 H)) H H<|O.oc 4 H ?_
  exact J.rn [_,_] [] H ⟨H,H,trivial⟩ H ⟨H,H⟩
 refine O.oc 6 H ?_
 exact J.rn [_,_] [] H ⟨H,H,trivial⟩ H ⟨H,H⟩
theorem l35_few (b c r:Int) (kn:Nat) (sv:Value) (l:List Sg) (av:Value) (acts:List Ad):Tri prog 9 #[.agg #[.int .i64 b,.int .i64 c,.int .i64 r,.int .u64 (Nat.cast kn:Int),sv],av] [rd sv 14 (l.map Sg.cells),ros (l.map Sg.rd),rd av 24 (acts.map Ad.cells)] [] (fun v L'=>∃ q,v=.bool q∧(q=true→Si.fewP l∧acts.length≤150)∧L'=[]):=by
 refine Tri.en func9 H ntmps9 H fun w0=>J.co 2 H ?_
 refine O.one (Src.ro 0 H) (fun hV2=>?_)
 refine O.l (Lo.bx H H) H ?_
 rintro _ _ ⟨g1,rfl,rfl⟩
 refine O.oc 8 H ?_
 refine J.lo (X:=Nat) (fun k=>k≤l.length∧∀ (i:Nat) (s:Sg),i < k→l[i]?=some s→s.cl.length≤10) (fun k=>[(5,.int .i64 (k:Int))]) (fun k=>[]) (fun k=>l.length-k) 0 [1,2] [] [0] ⟨by omega,fun i s h=>absurd h (Nat.not_lt_zero i)⟩ ⟨(eqi (by omega)),trivial⟩ H H ?_
 rintro k ⟨hk,hno⟩
 refine J.co 5 H<|O.q (Qt.lv 0 A23 H H H) H<|O.q (Qt.lenM U23 H (Src.ro 0 H)) H<|O.oo 2 H ?_
 refine O.sd 11 H (fun p3=>?_) (fun p3=>?_)
 ·
  refine O.oc 4 H ?_
  refine J.cd H (fun p4=>?_) (fun p4=>?_)
  ·
   refine J.cc 4 H ?_
   obtain ⟨e5,he5⟩:=ex_at (l:=l) (i:=k) (by omega)
   refine J.ros 1 H (A:=rd e5.cv 4 (e5.cl.map Cl.cells)) (List.mem_map.2 ⟨e5,List.mem_of_getElem? he5,H⟩)<|J.co 2 H<|O.q (Qt.lv 0 A23 H H H) H<|O.oo 1 H<|O.q (Qt.ix U23 Z56 H (Src.ro 0 H) he5 H (by rfl)) H<|O.oo 1 H<|O.q (Qt.le A54 (Src.ro 0 H) he5 13 H (by omega) H) H<|O.q (Qt.lenM U54 H (Src.ro 3 H)) H<|O.oc 2 H ?_
   refine J.cd H (fun p6=>?_) (fun p6=>?_)
   ·
    refine J.cc 4 H ?_
    exact J.r0 H H ⟨_,H,(fun h_=>by cases h_),H⟩
   refine J.co 4 H<|O.p (Pu.add' H H (by omega)) H<|O.oc 2 H ?_
   exact J.lq (k+1) [1,2] [] [0] ⟨by omega,Si.few_next hno he5 (by omega)⟩ (by omega) ⟨(eqi (by omega)),trivial⟩ H H
  refine J.co 4 H<|O.q (Qt.lv 0 A23 H H H) H<|O.q (Qt.lenM U23 H (Src.ro 0 H)) H<|O.oo 2 H ?_
  refine O.sd 29 H (fun p7=>?_) (fun p7=>?_)
  ·
   refine O.oo 1 H<|O.gz (Qt.lenM U26 H (Src.ro 2 H)) H H<|O.oc 4 H ?_
   exact J.r0 H H ⟨_,H,(fun h_=>⟨Si.few_all hno (by omega) (by first|omega|(cases h_;done)|(simp at h_;omega)),(by first|omega|(cases h_;done)|(simp at h_;omega))⟩),H⟩
  refine O.oc 6 H ?_
  exact J.r0 H H ⟨_,H,(fun h_=>by cases h_),H⟩
 refine O.oo 9 H<|O.q (Qt.lv 0 A23 H H H) H<|O.q (Qt.lenM U23 H (Src.ro 0 H)) H<|O.oo 2 H ?_
 refine O.sd 29 H (fun p8=>?_) (fun p8=>?_)
 ·
  refine O.oo 1 H<|O.gz (Qt.lenM U26 H (Src.ro 2 H)) H H<|O.oc 4 H ?_
  exact J.r0 H H ⟨_,H,(fun h_=>⟨Si.few_all hno (by omega) (by first|omega|(cases h_;done)|(simp at h_;omega)),(by first|omega|(cases h_;done)|(simp at h_;omega))⟩),H⟩
 refine O.oc 6 H ?_
 exact J.r0 H H ⟨_,H,(fun h_=>by cases h_),H⟩
theorem r18_Of (lv:Value) (l:List Int) (h7:l.length=7):Tri prog 75 #[lv] [rd lv 1 (l.map encZ)] [] (fun v L'=>v=.agg (l.map vI).toArray∧L'=[]):=by
 refine Tri.en func75 H ntmps75 H fun w0=>J.co 2 H<|O.l (Lo.al zeroValue45 H) H ?_
 rintro _ _ ⟨g1,rfl,rfl⟩
 refine O.oc 2 H<|J.drawTail 22 Tryz.mixed (by kernel_rfl)<|S.r 1 H ?_
 obtain ⟨e2,he2⟩:=ex_at (l:=l) (i:=0) (by omega)
 refine S.q (Qt.ix U60 Z3 H (Src.ro 0 H) he2 H (by rfl)) H<|S.q (Qt.le A3 (Src.ro 0 H) he2 0 H (by omega) H) H<|S.r 1 H ?_
 obtain ⟨e3,he3⟩:=ex_at (l:=l) (i:=1) (by omega)
 refine S.q (Qt.ix U60 Z3 H (Src.ro 0 H) he3 H (by rfl)) H<|S.q (Qt.le A3 (Src.ro 0 H) he3 0 H (by omega) H) H<|S.r 1 H ?_
 obtain ⟨e4,he4⟩:=ex_at (l:=l) (i:=2) (by omega)
 refine S.q (Qt.ix U60 Z3 H (Src.ro 0 H) he4 H (by rfl)) H<|S.q (Qt.le A3 (Src.ro 0 H) he4 0 H (by omega) H) H<|S.r 1 H ?_
 obtain ⟨e5,he5⟩:=ex_at (l:=l) (i:=3) (by omega)
 refine S.q (Qt.ix U60 Z3 H (Src.ro 0 H) he5 H (by rfl)) H<|S.q (Qt.le A3 (Src.ro 0 H) he5 0 H (by omega) H) H<|S.r 1 H ?_
 obtain ⟨e6,he6⟩:=ex_at (l:=l) (i:=4) (by omega)
 refine S.q (Qt.ix U60 Z3 H (Src.ro 0 H) he6 H (by rfl)) H<|S.q (Qt.le A3 (Src.ro 0 H) he6 0 H (by omega) H) H<|S.r 1 H ?_
 obtain ⟨e7,he7⟩:=ex_at (l:=l) (i:=5) (by omega)
 refine S.q (Qt.ix U60 Z3 H (Src.ro 0 H) he7 H (by rfl)) H<|S.q (Qt.le A3 (Src.ro 0 H) he7 0 H (by omega) H) H<|S.r 1 H ?_
 obtain ⟨e8,he8⟩:=ex_at (l:=l) (i:=6) (by omega)
 refine S.q (Qt.ix U60 Z3 H (Src.ro 0 H) he8 H (by rfl)) H<|S.q (Qt.le A3 (Src.ro 0 H) he8 0 H (by omega) H) H<|S.p (Pu.build [(0,.int .i64 e2),(1,.int .i64 e3),(2,.int .i64 e4),(3,.int .i64 e5),(4,.int .i64 e6),(5,.int .i64 e7),(6,.int .i64 e8)] [.int .i64 e2,.int .i64 e3,.int .i64 e4,.int .i64 e5,.int .i64 e6,.int .i64 e7,.int .i64 e8] #[(0,1),(1,1),(2,1),(3,1),(4,1),(5,1),(6,1)] runUnderlying45 zeroValue45 (places45 underlying45) H (by kernel_rfl)) H<|S.endO<|O.l0 (Lo.st 0 Z45 H H H H H H H) ?_
 rintro _ _ rfl
 refine O.nil ?_
 exact J.rn [_] [] H ⟨⟨_,_,0,0,_,H,(Cel.var 0 H),H,(Cut.agg [.int .i64 e2,.int .i64 e3,.int .i64 e4,.int .i64 e5,.int .i64 e6,.int .i64 e7,.int .i64 e8] A45 Z45 H H)⟩,trivial⟩ H ⟨(by rw [Kn.list7 h7 he2 he3 he4 he5 he6 he7 he8];rfl),H⟩
theorem r18_Of_us (lv:Value):Tri prog 75 #[lv] [rd lv 1 (([1,4,10,5,1,3,2]:List Int).map encZ)] [] (fun v L'=>v=.agg #[.int .i64 1,.int .i64 4,.int .i64 10,.int .i64 5,.int .i64 1,.int .i64 3,.int .i64 2]∧L'=[]):=r18_Of lv [1,4,10,5,1,3,2] rfl
theorem r30_Usual (n:Nat) (h8:n≤8):Tri prog 31 #[.int .i64 (n:Int)] [] [] (fun v L'=>∃ (V:Value) (l:List Sg),v=.agg #[.int .i64 2,.int .i64 4,.int .i64 1000,.int .u64 1,V]∧Si.dat l=Si.usK n n∧L'=[row V 56 14 (l.map Sg.cells),bun (l.map (Sg.row 136))]):=by
 refine Tri.en func31 H ntmps31 H fun w0=>J.co 2 H<|O.l (Lo.al Y25 H) H ?_
 rintro _ _ ⟨g1,rfl,rfl⟩
 refine O.oo 3 H<|O.p (Pu.build [(0,.int .i64 2),(1,.int .i64 4),(2,.int .i64 1000),(3,.int .u64 1)] [.int .i64 2,.int .i64 4,.int .i64 1000,.int .u64 1,Value.slice none 0 0] #[(0,1),(1,1),(2,1),(3,1),(4,1)] runUnderlying25 Y25 (places25 underlying25) H (by kernel_rfl)) H<|O.l (Lo.al Y25 H) H ?_
 rintro _ _ ⟨g2,rfl,rfl⟩
 refine O.l0 (Lo.st 0 Z25 H H H H H H H) ?_
 rintro _ _ rfl
 refine O.oc 3 H<|J.nb (([]:List Sg).map (Sg.row 136)) H<|J.cc 4 H<|J.nilRow 56 14 ?_
 refine J.lo (X:=Nat×Value×List Sg) (fun (k,V,l)=>k≤n∧Si.dat l=Si.usK n k∧l.length=k) (fun (k,V,l)=>[(4,.int .i64 (k:Int))]) (fun (k,V,l)=>[bun (l.map (Sg.row 136)),var g2 [.int .i64 2,.int .i64 4,.int .i64 1000,.int .u64 1,V] 25,row V 56 14 (l.map Sg.cells)]) (fun (k,V,l)=>n-k) ⟨0,Value.slice none 0 0,([]:List Sg)⟩ [0,2,3] [1,2,0] [3] ⟨by omega,rfl,rfl⟩ ⟨(eqi (by omega)),trivial⟩ H H ?_
 rintro ⟨k,V,l⟩ ⟨hk,hd,hlk⟩
 refine J.cc 7 H ?_
 refine J.cd H (fun p3=>?_) (fun p3=>?_)
 ·
  refine J.co 5 H<|O.l (Lo.bm encZ [1,4,10,5,1,3,2] U60 Z3 Y3 H H H (by kernel_rfl) H H) H ?_
  rintro V4 _ rfl
  refine O.l (Lo.ca call75 (r18_Of_us V4) [] H H (.of 0 row_rd H H .nil)) H ?_
  rintro _ _ ⟨_,⟨rfl,rfl⟩,rfl⟩
  refine O.p (Pu.build [(0,.int .i64 1),(1,.int .i64 4),(2,.int .i64 10),(3,.int .i64 1),(4,.int .i64 64),(5,.int .i64 20),(6,.agg #[.int .i64 1,.int .i64 4,.int .i64 10,.int .i64 5,.int .i64 1,.int .i64 3,.int .i64 2])] [.int .i64 1,.int .i64 4,.int .i64 10,.int .i64 1,.int .i64 64,.int .i64 20,.int .i64 1,.int .i64 4,.int .i64 10,.int .i64 5,.int .i64 1,.int .i64 3,.int .i64 2,Value.slice none 0 0] #[(0,1),(1,1),(2,1),(3,1),(4,1),(5,1),(6,7),(13,1)] runUnderlying56 Y56 (places56 underlying56) H (by kernel_rfl)) H<|O.l (Lo.al Y56 H) H ?_
  rintro _ _ ⟨g6,rfl,rfl⟩
  refine O.l0 (Lo.st 0 Z56 H H H H H H H) ?_
  rintro _ _ rfl
  refine O.oo 6 H<|O.p (Pu.sub' H H (by omega)) H<|O.oc 2 H ?_
  refine J.cd H (fun p7=>?_) (fun p7=>?_)
  ·
   refine J.co 2 H<|O.q (Qt.lv 0 A54 H H H) H<|O.oo 1 H<|O.p (Pu.add' H H (by omega)) H<|O.p (Pu.build [(0,.int .i64 ((k:Int)+1)),(2,.int .i64 6),(3,.int .i64 20)] [.int .i64 ((k:Int)+1),.int .i64 0,.int .i64 6,.int .i64 20] #[(0,1),(1,1),(2,1),(3,1)] runUnderlying136 Y136 (places136 underlying136) H (by kernel_rfl)) H<|O.l (Lo.bm Cl.cells [(⟨(k:Int)+1,0,6,20⟩:Cl)] U54 Z136 Y136 H H H (by kernel_rfl) H H) H ?_
   rintro V8 _ rfl
   refine O.nr 136 4 (([]:List Cl).map Cl.cells) H<|O.l (Lo.am 0 underlying54 info136 H H H H H (Src.row 1 H) Cl.one (by first|omega|(simp only [List.length_append,List.length_cons,List.length_nil];omega)) (by first|omega|(simp only [List.length_append,List.length_cons,List.length_nil];omega))) H ?_
   rintro V9 _ rfl
   refine O.oo 1 H ?_
   refine O.one (Src.row 0 H) (fun hV10=>?_)
   refine O.l0 (Lo.so 2 sizeOf54 hV10 H H H H) ?_
   rintro _ _ rfl
   refine O.nil ?_
   refine J.one (Src.row 0 H) (fun hV=>?_)
   refine J.co 2 H<|O.q (Qt.lv 5 A23 H H H) H<|O.q (Qt.lva 2 A56 Z56 H H H) H<|O.l (Lo.bm Sg.cells [(⟨1,4,10,1,64,20,1,4,10,5,1,3,2,V9,([]:List Cl)++([(⟨(k:Int)+1,0,6,20⟩:Cl)]),hV⟩:Sg)] U23 Z56 Y56 H H H (by cases V9<;>first|(simp [Value.oneCell'] at hV;done)|kernel_rfl) H H) H ?_
   rintro V11 _ rfl
   refine O.l (Lo.am 7 N23 info56 H H H H H (Src.row 0 H) Sg.one (by first|omega|(simp only [List.length_append,List.length_cons,List.length_nil];omega)) (by first|omega|(simp only [List.length_append,List.length_cons,List.length_nil];omega))) H ?_
   rintro V12 _ rfl
   refine O.oo 1 H ?_
   refine O.one (Src.row 7 H) (fun hV13=>?_)
   refine O.l0 (Lo.so 6 Z23 hV13 H H H H) ?_
   rintro _ _ rfl
   refine O.oc 2 H<|J.re (L':=[bun ((l++([(⟨1,4,10,1,64,20,1,4,10,5,1,3,2,V9,([]:List Cl)++([(⟨(k:Int)+1,0,6,20⟩:Cl)]),hV⟩:Sg)])).map (Sg.row 136)),row V11 56 14 (([(⟨1,4,10,1,64,20,1,4,10,5,1,3,2,V9,([]:List Cl)++([(⟨(k:Int)+1,0,6,20⟩:Cl)]),hV⟩:Sg)]).map Sg.cells),row V8 136 4 (([(⟨(k:Int)+1,0,6,20⟩:Cl)]).map Cl.cells),var g6 [.int .i64 1,.int .i64 4,.int .i64 10,.int .i64 1,.int .i64 64,.int .i64 20,.int .i64 1,.int .i64 4,.int .i64 10,.int .i64 5,.int .i64 1,.int .i64 3,.int .i64 2,V9] 56,row V4 3 1 (([1,4,10,5,1,3,2]).map encZ),var g2 [.int .i64 2,.int .i64 4,.int .i64 1000,.int .u64 1,V12] 25,row V12 56 14 ((l++([(⟨1,4,10,1,64,20,1,4,10,5,1,3,2,V9,([]:List Cl)++([(⟨(k:Int)+1,0,6,20⟩:Cl)]),hV⟩:Sg)])).map Sg.cells),var g1 [.int .i64 0,.int .i64 0,.int .i64 0,.int .u64 0,Value.slice none 0 0] 25]) (Re.trans (Re.sn [1,5,0,2,3,4,6,7,8] H) (Si.sg_into H H))<|J.co 2 H<|O.p (Pu.add' H H (by omega)) H<|O.oc 2 H ?_
   exact J.lq ⟨k+1,V12,l++([(⟨1,4,10,1,64,20,1,4,10,5,1,3,2,V9,([]:List Cl)++([(⟨(k:Int)+1,0,6,20⟩:Cl)]),hV⟩:Sg)])⟩ [0,2,3] [0,5,6] [7] ⟨by omega,Si.us_next hd (Si.usd_yes (by omega)).symm,(by simp only [List.length_append,List.length_cons,List.length_nil];omega)⟩ (by dsimp only;omega) ⟨(eqi (by omega)),trivial⟩ H H
  refine J.skip<|J.nr 136 4 (([]:List Cl).map Cl.cells) H<|J.co 2 H<|O.q (Qt.lv 4 A23 H H H) H<|O.q (Qt.lva 1 A56 Z56 H H H) H<|O.l (Lo.bm Sg.cells [(⟨1,4,10,1,64,20,1,4,10,5,1,3,2,Value.slice none 0 0,([]:List Cl),H⟩:Sg)] U23 Z56 Y56 H H H (by kernel_rfl) H H) H ?_
  rintro V14 _ rfl
  refine O.l (Lo.am 6 N23 info56 H H H H H (Src.row 0 H) Sg.one (by first|omega|(simp only [List.length_append,List.length_cons,List.length_nil];omega)) (by first|omega|(simp only [List.length_append,List.length_cons,List.length_nil];omega))) H ?_
  rintro V15 _ rfl
  refine O.oo 1 H ?_
  refine O.one (Src.row 6 H) (fun hV16=>?_)
  refine O.l0 (Lo.so 5 Z23 hV16 H H H H) ?_
  rintro _ _ rfl
  refine O.oc 2 H<|J.re (L':=[bun ((l++([(⟨1,4,10,1,64,20,1,4,10,5,1,3,2,Value.slice none 0 0,([]:List Cl),H⟩:Sg)])).map (Sg.row 136)),row V14 56 14 (([(⟨1,4,10,1,64,20,1,4,10,5,1,3,2,Value.slice none 0 0,([]:List Cl),H⟩:Sg)]).map Sg.cells),var g6 [.int .i64 1,.int .i64 4,.int .i64 10,.int .i64 1,.int .i64 64,.int .i64 20,.int .i64 1,.int .i64 4,.int .i64 10,.int .i64 5,.int .i64 1,.int .i64 3,.int .i64 2,Value.slice none 0 0] 56,row V4 3 1 (([1,4,10,5,1,3,2]).map encZ),var g2 [.int .i64 2,.int .i64 4,.int .i64 1000,.int .u64 1,V15] 25,row V15 56 14 ((l++([(⟨1,4,10,1,64,20,1,4,10,5,1,3,2,Value.slice none 0 0,([]:List Cl),H⟩:Sg)])).map Sg.cells),var g1 [.int .i64 0,.int .i64 0,.int .i64 0,.int .u64 0,Value.slice none 0 0] 25]) (Re.trans (Re.sn [1,4,0,2,3,5,6,7] H) (Si.sg_into H H))<|J.co 2 H<|O.p (Pu.add' H H (by omega)) H<|O.oc 2 H ?_
  exact J.lq ⟨k+1,V15,l++([(⟨1,4,10,1,64,20,1,4,10,5,1,3,2,Value.slice none 0 0,([]:List Cl),H⟩:Sg)])⟩ [0,2,3] [0,4,5] [6] ⟨by omega,Si.us_next hd (Si.usd_no (by omega)).symm,(by simp only [List.length_append,List.length_cons,List.length_nil];omega)⟩ (by dsimp only;omega) ⟨(eqi (by omega)),trivial⟩ H H
 refine J.co 3 H<|O.q (Qt.lva 1 A25 Z25 H H H) H ?_
 refine O.one (Src.row 2 H) (fun hV17=>?_)
 refine O.l0 (Lo.st 3 Z25 H H H H H (by simp only [List.all_cons,List.all_nil,Bool.and_true,hV17]<;>rfl) H) ?_
 rintro _ _ rfl
 refine O.nil ?_
 exact J.rn [_] [2,0] H ⟨⟨_,_,0,0,_,H,(Cel.var 3 H),H,(Cut.agg [.int .i64 2,.int .i64 4,.int .i64 1000,.int .u64 1,V] A25 Z25 H H)⟩,trivial⟩ H ⟨V,l,H,(by rw [hd,show k=n from by omega]),H⟩
end Go.Proofs.YtohjlkjhpibkmaaGreatDoor
namespace Go.LK.Nd
open Go Go.LK
section
variable {N:Nc} {Z Z':Sx} {a:Ad} {es:List Ev} {fs:List Fr} {e:Int}
theorem Init.lt {b c sf:Int} {e:Sg} (h:Init N Z b c sf e):Z.Lt 0:=⟨by rw [h.many];decide,by rw [h.cl];decide,by rw [h.wl];decide,by decide⟩
end
end Go.LK.Nd
namespace Go.LK.Nd
open Go Go.LK
theorem aw_site {l:List Sg} (h:Si.dat l=Si.usK 1 1):∃ s0,l=[s0]∧s0.nums=[1,4,10,1,64,20,1,4,10,5,1,3,2]∧s0.cl=[]:=by
  match l,h with
  | [],h=>simp [Si.dat,Si.usK] at h
  | [s0],h =>
    simp only [Si.dat,Si.usK,Si.usd,List.map_cons,List.map_nil,List.range_succ,List.range_zero,List.nil_append,List.cons.injEq,and_true,Prod.mk.injEq] at h
    exact ⟨s0,rfl,h.1,by simpa using h.2⟩
  | _ :: _ :: _,h=>simp [Si.dat,Si.usK,List.range_succ] at h
theorem aw_ros {T:Nat} {s0:Sg}:∀ w,(bun ([s0].map (Sg.row T))).holds w→(ros ([({ s0 with x1:=1 }:Sg)].map Sg.rd)).holds w∧∀ k∈(ros ([({ s0 with x1:=1 }:Sg)].map Sg.rd)).foot,k∈(bun ([s0].map (Sg.row T))).foot:=sg_ros (T:=T) (l:=[s0])
theorem aw_chk {s0:Sg} (hn:s0.nums=[1,4,10,1,64,20,1,4,10,5,1,3,2]) (hc:s0.cl=[]):Si.chk 2 4 1000 [{ s0 with x1:=1 }]=0:=by
  have hl:Gr.loops (gOf [({ s0 with x1:=1 }:Sg)])=0:=by
    unfold gOf
    simp only [List.map_cons,List.map_nil,hc]
    exact Gr.loops_yes (o:=[0]) (by kernel_rfl)
  have hk:Si.chkN 2 4 [({ s0 with x1:=1 }:Sg)] [({ s0 with x1:=1 }:Sg)].length=true:=by
    simp only [Sg.nums,List.cons.injEq,and_true] at hn
    obtain ⟨h0,h1,h2,h3,h4,h5,h6,h7,h8,h9,h10,h11,h12⟩:=hn
    unfold Si.chkN
    simp only [List.length_cons,List.length_nil,List.range_succ,List.range_zero,List.nil_append,List.all_cons,List.all_nil,Bool.and_true,List.getElem?_cons_zero,Sg.nums,h0,h2,h3,h4,h5,h6,h7,h8,h9,h10,h11,h12,hc]
    kernel_rfl
  exact (if_pos (by rw [hk];rfl)).trans hl
theorem aw_new {s0:Sg} (hn:s0.nums=[1,4,10,1,64,20,1,4,10,5,1,3,2]) (hc:s0.cl=[]):newB 2 4 1000 [{ s0 with x1:=1 }] 0=true:=newB_iff.2 ⟨aw_chk hn hc,by decide,by simp⟩
structure AwN (N:Nc):Prop where
  slf:N.self=0
  lev:N.lev=8
  wk:N.wk=1
  qn:N.qn=1
  calls:N.calls=[]
theorem aw_n {N:Nc} {Z:Sx} {s0 e:Sg} (hn:s0.nums=[1,4,10,1,64,20,1,4,10,5,1,3,2]) (hc:s0.cl=[]) (he:([({ s0 with x1:=1 }:Sg)]:List Sg)[(0:Int).toNat]?=some e) (h:Init N Z 2 4 0 e):AwN N:=by
  cases he
  simp only [Sg.nums,List.cons.injEq,and_true] at hn
  exact ⟨h.slf,by rw [h.lev];decide,by rw [h.wk];exact hn.1,h.qn,by rw [h.calls];exact hc⟩
structure AwS (Z:Sx) (t js:List Im) (m:Int):Prop where
  now:Z.now=0
  thr:Z.k.thr=8
  qt:Z.q.t.Perm t
  pj:(its Z.ps).Perm js
  jm:∀ x∈js,getI Z.jm x.id=some (jNew x)
  sn:∀ k,(getI Z.sn.m k).isSome=true→1≤k∧k≤m
section
variable {N:Nc} {Z Z':Sx} {es:List Ev} {fs:List Fr} {e:Int} {t js:List Im} {x:Im}
theorem aw_zero {b c:Int} {s0:Sg} (hN:AwN N) (h:Init N Z b c 0 s0):AwS Z [] [] 0 :=
  ⟨h.now,by rw [h.thr,hN.lev],by rw [h.q],by rw [h.ps],by simp,fun k hk=>by rw [h.snm] at hk;simp [getI] at hk⟩
theorem aw_req {m id level:Int} (hN:AwN N) (hS:Z.Ok N) (hA:AwS Z t js m) (hm:id=m+1) (hx:1≤id∧id≤3∧0≤level∧level≤7)
    (hnt:∀ y∈t++js,y.id≠id) (h:ReqR N Z id (-1) 0 level 50 9 Z' es fs e) :
    ∃ x:Im,x.id=id∧x.level=level∧e=0∧Z'.now=0∧Z'.k.thr=8∧(∀ k,(getI Z'.sn.m k).isSome=true→1≤k∧k≤id)∧∃ k1 t1 es1 SS,LineR N 0 k1 x Z.q.t t1 [⟨1,0,0,id,0,level,8⟩] es1 [] fs∧OnR N 0 t1 Z'.q.t (its Z.ps) (its Z'.ps) Z.jm Z'.jm es1 es SS∧Full N Z'.q.t (its Z'.ps):=by
  obtain ⟨h6,h7,h8,h9⟩:=hx
  have hr:rightQ N id (-1) 0 level 50 9=true:=by
    unfold rightQ
    rw [okQ_iff.2 ⟨by omega,by omega,by omega,by omega,by omega,by omega⟩,hN.slf,hN.lev]
    simp;omega
  rcases h with ⟨h,_⟩|⟨_,he,hsn,hst,h⟩
  · rw [hr] at h;cases h
  have htw:twiceB Z id=false:=by
    have a1:getI Z.jm id=none:=hS.i.j.no.2 fun y hy=>hnt y (List.mem_append_right _ (hA.pj.mem_iff.1 hy))
    have a2:(getI Z.q.m id).isSome=false:=hS.q.hk.noneIff.2 fun y hy=>hnt y (List.mem_append_left _ (hA.qt.mem_iff.1 hy))
    have a3:(getI Z.sn.m id).isSome=false:=by
      cases hq:(getI Z.sn.m id).isSome with
      | false=>rfl
      | true=>have:=hA.sn _ hq;omega
    unfold twiceB;rw [a1,a2,a3];rfl
  rcases h with ⟨h,_⟩|⟨_,k1,t1,es1,SS,hk1,hl,ho,hf⟩
  · rw [htw] at h;cases h
  have hc:comes Z.now k1.thr level 50=0:=by
    unfold comes Sh.passes
    rw [hA.now,hk1.thr,hA.thr];simp;omega
  rw [hc,hA.now,hk1.thr,hA.thr,hN.slf] at hl
  rw [hA.now] at ho
  refine ⟨⟨id,level,-1,50,9,0,Z.many+1⟩,rfl,rfl,he,by rw [hst.now,hA.now],by rw [hst.k.thr,hA.thr],fun k hk=>?_,k1,t1,es1,SS,?_,ho,hf⟩
  · rcases hsn k hk with rfl|hk
    · omega
    · have:=hA.sn k hk;omega
  · rcases hl with ⟨h,_⟩|⟨_,h⟩
    · exact absurd rfl h
    · exact h
theorem two_perm {a b:Im} {l:List Im} (h:(a :: l).Perm [b,a]):l=[b]:=by
  have h1:(a :: l).Perm (a :: [b]):=h.trans (List.Perm.swap a b [])
  exact List.perm_singleton.1 ((List.perm_cons a).1 h1)
theorem its_one (hN:AwN N) (hS:Z.Ok N):(its Z.ps).length≤1:=by
  have h:=its_le hS.i.hb
  rw [hN.wk] at h;exact h
theorem aw1 (hN:AwN N) (hS:Z.Ok N) (hA:AwS Z [] [] 0) (h:ReqR N Z 1 (-1) 0 2 50 9 Z' es fs e):e=0∧es.length=2∧∃ x1:Im,x1.id=1∧AwS Z' [] [x1] 1:=by
  obtain ⟨x,hx1,hx2,he,hn,ht,hk,k1,t1,es1,SS,hl,ho,hf⟩:=aw_req hN hS hA (by decide) (by decide) (by simp) h
  have hq:Z.q.t=[]:=List.perm_nil.1 hA.qt
  have hj:its Z.ps=[]:=List.perm_nil.1 hA.pj
  rcases hl with ⟨_,hp,rfl,_⟩|⟨hc,_⟩
  · rw [hq] at hp
    have h1:=ho.t;have h2:=ho.p;rw [hj,List.append_nil] at h2
    have h3:(SS++Z'.q.t).Perm [x]:=h1.symm.trans hp
    have h4:=h3.length_eq
    have hS1:SS=[x]∧Z'.q.t=[]:=by
      match SS,h3,h4 with
      | [],h3,h4 =>
        exfalso
        rcases hf with hf|hf
        · rw [hf] at h4;simp at h4
        · rw [hN.wk] at hf
          have:=h2.length_eq;simp at this;rw [this] at hf;simp at hf
      | [a],h3,h4 =>
        have h5:Z'.q.t=[]:=by simpa using h4
        rw [h5] at h3
        exact ⟨List.perm_singleton.1 (by simpa using h3),h5⟩
      | _ :: _ :: _,h3,h4=>simp at h4
    obtain ⟨rfl,hq'⟩:=hS1
    exact ⟨he,by rw [ho.e];rfl,x,hx1,hn,ht,by rw [hq'],h2,fun y hy=>ho.j y hy,hk⟩
  · rw [hq,hN.qn] at hc;simp at hc
theorem aw_full {t1 es1 SS} (hN:AwN N) (hS':Z'.Ok N) (hj:(its Z.ps).length=1) (ho:OnR N 0 t1 Z'.q.t (its Z.ps) (its Z'.ps) Z.jm Z'.jm es1 es SS):SS=[]∧es=es1∧t1.Perm Z'.q.t∧(its Z'.ps).Perm (its Z.ps)∧∀ id,getI Z'.jm id=getI Z.jm id:=by
  have h1:=ho.p.length_eq
  have h2:=its_one hN hS'
  rw [List.length_append] at h1
  have h3:SS=[]:=List.eq_nil_of_length_eq_zero (by omega)
  subst h3
  exact ⟨rfl,by rw [ho.e];simp,by simpa using ho.t,by simpa using ho.p,fun id=>ho.o id (by simp)⟩
theorem aw2 {x1:Im} (hN:AwN N) (hS:Z.Ok N) (hx:x1.id=1) (hA:AwS Z [] [x1] 1) (hS':Z'.Ok N) (h:ReqR N Z 2 (-1) 0 3 50 9 Z' es fs e):e=0∧es.length=1∧∃ x2:Im,x2.id=2∧x2.level=3∧AwS Z' [x2] [x1] 2:=by
  obtain ⟨x,hx1,hx2,he,hn,ht,hk,k1,t1,es1,SS,hl,ho,hf⟩:=aw_req hN hS hA (by decide) (by decide) (by intro y hy;simp at hy;subst hy;omega) h
  have hq:Z.q.t=[]:=List.perm_nil.1 hA.qt
  obtain ⟨_,he1,h1,h2,h3⟩:=aw_full hN hS' (by rw [hA.pj.length_eq];rfl) ho
  rcases hl with ⟨_,hp,rfl,_⟩|⟨hc,_⟩
  · rw [hq] at hp
    exact ⟨he,by rw [he1];rfl,x,hx1,hx2,hn,ht,h1.symm.trans hp,h2.trans hA.pj,fun y hy=>by rw [h3];exact hA.jm y hy,hk⟩
  · rw [hq,hN.qn] at hc;simp at hc
theorem aw3 {x1 x2:Im} (hN:AwN N) (hS:Z.Ok N) (hx:x1.id=1) (hy:x2.id=2) (hyl:x2.level=3) (hA:AwS Z [x2] [x1] 2) (hS':Z'.Ok N) (h:ReqR N Z 3 (-1) 0 1 50 9 Z' es fs e):e=0∧es.length=2∧es[1]?=some ⟨4,0,0,2,5,3,0⟩∧∃ x3:Im,AwS Z' [x3] [x1] 3:=by
  obtain ⟨x,hx1,hx2,he,hn,ht,hk,k1,t1,es1,SS,hl,ho,hf⟩:=aw_req hN hS hA (by decide) (by decide) (by intro y hy;simp at hy;rcases hy with rfl|rfl<;>omega) h
  have hq:Z.q.t=[x2]:=List.perm_singleton.1 hA.qt
  obtain ⟨_,he1,h1,h2,h3⟩:=aw_full hN hS' (by rw [hA.pj.length_eq];rfl) ho
  rcases hl with ⟨hc,_⟩|⟨_,y,hp,hz,he2,_⟩
  · rw [hq,hN.qn] at hc;simp at hc
  · rw [hq] at hp
    have hy2:y=x2∧t1=[x]:=by
      have hm:y∈[x,x2]:=hp.mem_iff.1 List.mem_cons_self
      simp only [List.mem_cons,List.not_mem_nil,or_false] at hm
      rcases hm with rfl|rfl
      · exfalso
        have h4:t1=[x2]:=List.perm_singleton.1 ((List.perm_cons y).1 hp)
        have:=hz x2 (by rw [h4];simp);omega
      · exact ⟨rfl,two_perm hp⟩
    obtain ⟨rfl,rfl⟩:=hy2
    have he3:es=[⟨1,0,0,3,0,1,8⟩,⟨4,0,0,2,5,3,0⟩]:=by
      rw [he1,he2];unfold endE;rw [hy,hyl,hN.slf];rfl
    exact ⟨he,by rw [he3];rfl,by rw [he3];rfl,x,hn,ht,h1.symm,h2.trans hA.pj,fun y hy=>by rw [h3];exact hA.jm y hy,hk⟩
theorem aw4 {x1 x3:Im} (hN:AwN N) (hS:Z.Ok N) (hx:x1.id=1) (hA:AwS Z [x3] [x1] 3) (hS':Z'.Ok N) (h:DonR N Z 1 Z' es fs e):e=0∧(∃ f,fs=[f]∧f.rc=1)∧(its Z'.ps).length=1:=by
  have hg:getI Z.jm 1=some (jNew x1):=by rw [←hx];exact hA.jm x1 (by simp)
  rcases h with ⟨h,_⟩|⟨j,hj,h⟩
  · rw [hg] at h;cases h
  rw [hg] at hj;cases hj
  rcases h with ⟨h,_⟩|⟨_,he,_,_,js1,m1,es1,SS,hca,ho,hf⟩
  · exact absurd rfl h
  obtain ⟨C,G,_,_,hc0,_,_,hca⟩:=hca
  obtain ⟨rfl,rfl⟩:=hc0 hN.calls
  rcases hca with ⟨code,_,hc1,hp,_,_,hfs⟩|⟨hc,_⟩
  · obtain rfl:=hc1 hN.calls
    have hjs:js1=[]:=by
      have:=hp.length_eq;rw [hA.pj.length_eq] at this
      simp at this;exact this
    subst hjs
    refine ⟨he,⟨_,by simpa using hfs,rfl⟩,?_⟩
    rcases hf with hf|hf
    · have h1:=ho.t.length_eq;have h2:=ho.p.length_eq
      rw [hf,hA.qt.length_eq] at h1;simp at h1 h2;omega
    · rw [hN.wk] at hf;omega
  · exact absurd hN.calls hc
end
end Go.LK.Nd
namespace Go.Proofs.YtohjlkjhpibkmaaGreatDoor
open Go Go.LK Go.Proofs.Tryz
set_option maxRecDepth 100000
set_option maxHeartbeats 4000000
theorem l35_awake :Tri prog 10 #[] [] [] (fun v L'=>v=.bool true∧L'=[]):=by
 refine Tri.en func10 H ntmps10 H fun w0=>J.co 6 H<|O.l (Lo.ca call31 (r30_Usual 1 (by decide)) [] H H .nil) H ?_
 rintro _ _ ⟨_,⟨V,l,rfl,hd,rfl⟩,rfl⟩
 obtain ⟨s0,rfl,hsn,hsc⟩:=Nd.aw_site hd
 refine O.l (Lo.al Y25 H) H ?_
 rintro _ _ ⟨g2,rfl,rfl⟩
 refine O.one (Src.row 1 H) (fun hV3=>?_)
 refine O.l0 (Lo.st 0 Z25 H H H H H (by simp only [List.all_cons,List.all_nil,Bool.and_true,hV3]<;>rfl) H) ?_
 rintro _ _ rfl
 refine O.oc 2 H ?_
 refine J.one (Src.row 1 H) (fun hV=>?_)
 refine J.co 2 H<|O.q (Qt.lv 0 A23 H H H) H ?_
 have he4:([s0])[0]?=some s0:=rfl
 refine O.q (Qt.ix U23 Z56 H (Src.row 1 H) he4 H (by rfl)) H<|O.oo 1 H<|O.l0 (Lo.storeM 1 (j:=0) (off:=1) (vs:=[.int .i64 1]) (e:=[.int .i64 s0.x0,.int .i64 s0.x1,.int .i64 s0.x2,.int .i64 s0.x3,.int .i64 s0.x4,.int .i64 s0.x5,.int .i64 s0.x6,.int .i64 s0.x7,.int .i64 s0.x8,.int .i64 s0.x9,.int .i64 s0.x10,.int .i64 s0.x11,.int .i64 s0.x12,s0.cv]) ({ s0 with x1:=1 }) H H H H (by omega) he4 H Z3 H H H H H) ?_
 rintro _ _ rfl
 refine O.oo 3 H<|O.q (Qt.lva 0 A25 Z25 H H H) H<|O.l (Lo.ca call23 (nw_New 2 4 1000 1 V [({ s0 with x1:=1 }:Sg)] 0 hV (by simp) (by simp [hsc]) (Nd.aw_new hsn hsc)) [] H H (.of 1 row_rd H H (.of 2 (Nd.aw_ros (T:=136)) H H .nil))) H ?_
 rintro _ _ ⟨_,⟨N,Z0,e,he,hN,hZ0,hini,hsvs,rfl,rfl⟩,rfl⟩
 have haN:=Nd.aw_n hsn hsc he hini
 have hs0:=Nd.aw_zero haN hini
 refine O.oo 8 H<|O.l (Lo.al zeroValue93 H) H ?_
 rintro _ _ ⟨g7,rfl,rfl⟩
 refine O.oc 7 H<|J.un<|J.co 14 H<|O.p (Pu.add' H H (by decide)) H<|O.p (Pu.buildA [(0,.int .i64 2),(1,.int .i64 3),(2,.int .i64 1)] [.int .i64 2,.int .i64 3,.int .i64 1] U95 zeroValue95 Z3 H (by kernel_rfl)) H<|O.oo 1 H<|O.p (Pu.indexK1 (cs:=[.int .i64 2,.int .i64 3,.int .i64 1]) U95 Z3 A3 H H (by decide) (by decide) H) H<|O.p (Pu.build [(0,.int .i64 1),(1,.int .i64 (-1)),(3,.int .i64 2),(4,.int .i64 50),(5,.int .i64 9)] [.int .i64 1,.int .i64 (-1),.int .i64 0,.int .i64 2,.int .i64 50,.int .i64 9] #[(0,1),(1,1),(2,1),(3,1),(4,1),(5,1)] U41 Y41 (places41 N41) H (by kernel_rfl)) H<|O.l (Lo.ca call32 (nw_Request N Z0 0 1 (-1) 0 2 50 9 hN hZ0 hini.lt (by decide)) [1,2,3,4,5,6,7,8,9,10,11] H H .nil) H ?_
 rintro _ _ ⟨_,⟨Z8,E9,F10,es11,fs12,e13,hR14,rfl,rfl⟩,rfl⟩
 obtain ⟨he1,hl1,x1,hx1,hs1⟩:=Nd.aw1 haN hZ0 hs0 hR14.2.2
 refine O.oo 3 H<|O.l (Lo.al Y36 H) H ?_
 rintro _ _ ⟨g16,rfl,rfl⟩
 refine O.one (Src.row 1 H) (fun hV17=>?_)
 refine O.one (Src.row 2 H) (fun hV18=>?_)
 refine O.l0 (Lo.st 0 Z36 H H H H H (by simp only [List.all_cons,List.all_nil,Bool.and_true,hV17,hV18]<;>rfl) H) ?_
 rintro _ _ rfl
 refine O.oo 5 H<|O.q (Qt.lva 0 A36 Z36 H H H) H<|O.p (Pu.indexAddrK 0 U93 Z36 H H (by decide) (by decide) H) H<|O.l0 (Lo.st 14 Z36 H H H H H (by simp only [List.all_cons,List.all_nil,Bool.and_true,hV17,hV18]<;>rfl) H) ?_
 rintro _ _ rfl
 refine O.oc 6 H<|J.condF H (decide_eq_false (fun h_=>h_ he1))<|J.co 4 H<|O.p (Pu.add' H H (by decide)) H<|O.oc 2 H<|J.again<|J.co 14 H<|O.p (Pu.add' H H (by decide)) H<|O.p (Pu.buildA [(0,.int .i64 2),(1,.int .i64 3),(2,.int .i64 1)] [.int .i64 2,.int .i64 3,.int .i64 1] U95 zeroValue95 Z3 H (by kernel_rfl)) H<|O.oo 1 H<|O.p (Pu.indexK1 (cs:=[.int .i64 2,.int .i64 3,.int .i64 1]) U95 Z3 A3 H H (by decide) (by decide) H) H<|O.p (Pu.build [(0,.int .i64 2),(1,.int .i64 (-1)),(3,.int .i64 3),(4,.int .i64 50),(5,.int .i64 9)] [.int .i64 2,.int .i64 (-1),.int .i64 0,.int .i64 3,.int .i64 50,.int .i64 9] #[(0,1),(1,1),(2,1),(3,1),(4,1),(5,1)] U41 Y41 (places41 N41) H (by kernel_rfl)) H<|O.l (Lo.ca call32 (nw_Request N Z8 1 2 (-1) 0 3 50 9 hN hR14.1 hR14.2.1 (by decide)) [3,4,5,6,7,8,9,10,11,12,13] H H .nil) H ?_
 rintro _ _ ⟨_,⟨Z19,E20,F21,es22,fs23,e24,hR25,rfl,rfl⟩,rfl⟩
 obtain ⟨he2,hl2,x2,hx2,hx2l,hs2⟩:=Nd.aw2 haN hR14.1 hx1 hs1 hR25.1 hR25.2.2
 refine O.oo 3 H<|O.l (Lo.al Y36 H) H ?_
 rintro _ _ ⟨g27,rfl,rfl⟩
 refine O.one (Src.row 1 H) (fun hV28=>?_)
 refine O.one (Src.row 2 H) (fun hV29=>?_)
 refine O.l0 (Lo.st 0 Z36 H H H H H (by simp only [List.all_cons,List.all_nil,Bool.and_true,hV28,hV29]<;>rfl) H) ?_
 rintro _ _ rfl
 refine O.oo 5 H<|O.q (Qt.lva 0 A36 Z36 H H H) H<|O.p (Pu.indexAddrK 2 U93 Z36 H H (by decide) (by decide) H) H<|O.l0 (Lo.st 17 Z36 H H H H H (by simp only [List.all_cons,List.all_nil,Bool.and_true,hV28,hV29]<;>rfl) H) ?_
 rintro _ _ rfl
 refine O.oc 6 H<|J.condF H (decide_eq_false (fun h_=>h_ he2))<|J.co 4 H<|O.p (Pu.add' H H (by decide)) H<|O.oc 2 H<|J.again<|J.co 14 H<|O.p (Pu.add' H H (by decide)) H<|O.p (Pu.buildA [(0,.int .i64 2),(1,.int .i64 3),(2,.int .i64 1)] [.int .i64 2,.int .i64 3,.int .i64 1] U95 zeroValue95 Z3 H (by kernel_rfl)) H<|O.oo 1 H<|O.p (Pu.indexK1 (cs:=[.int .i64 2,.int .i64 3,.int .i64 1]) U95 Z3 A3 H H (by decide) (by decide) H) H<|O.p (Pu.build [(0,.int .i64 3),(1,.int .i64 (-1)),(3,.int .i64 1),(4,.int .i64 50),(5,.int .i64 9)] [.int .i64 3,.int .i64 (-1),.int .i64 0,.int .i64 1,.int .i64 50,.int .i64 9] #[(0,1),(1,1),(2,1),(3,1),(4,1),(5,1)] U41 Y41 (places41 N41) H (by kernel_rfl)) H<|O.l (Lo.ca call32 (nw_Request N Z19 2 3 (-1) 0 1 50 9 hN hR25.1 hR25.2.1 (by decide)) [3,4,5,6,7,8,9,10,11,12,13] H H .nil) H ?_
 rintro _ _ ⟨_,⟨Z30,E31,F32,es33,fs34,e35,hR36,rfl,rfl⟩,rfl⟩
 obtain ⟨he3,hl3,hv3,x3,hs3⟩:=Nd.aw3 haN hR25.1 hx1 hx2 hx2l hs2 hR36.1 hR36.2.2
 refine O.oo 3 H<|O.l (Lo.al Y36 H) H ?_
 rintro _ _ ⟨g38,rfl,rfl⟩
 refine O.one (Src.row 1 H) (fun hV39=>?_)
 refine O.one (Src.row 2 H) (fun hV40=>?_)
 refine O.l0 (Lo.st 0 Z36 H H H H H (by simp only [List.all_cons,List.all_nil,Bool.and_true,hV39,hV40]<;>rfl) H) ?_
 rintro _ _ rfl
 refine O.oo 5 H<|O.q (Qt.lva 0 A36 Z36 H H H) H<|O.p (Pu.indexAddrK 4 U93 Z36 H H (by decide) (by decide) H) H<|O.l0 (Lo.st 20 Z36 H H H H H (by simp only [List.all_cons,List.all_nil,Bool.and_true,hV39,hV40]<;>rfl) H) ?_
 rintro _ _ rfl
 refine O.oc 6 H<|J.condF H (decide_eq_false (fun h_=>h_ he3))<|J.co 4 H<|O.p (Pu.add' H H (by decide)) H<|O.oc 2 H<|J.again<|J.co 11 H<|O.l (Lo.ca call33 (nw_Done N Z30 3 1 hN hR36.1 hR36.2.1 (by decide)) [3,4,5,6,7,8,9,10,11,12,13] H H .nil) H ?_
 rintro _ _ ⟨_,⟨Z41,E42,F43,es44,fs45,e46,hR47,rfl,rfl⟩,rfl⟩
 obtain ⟨he4,⟨f0,hfs,hrc⟩,hjl⟩:=Nd.aw4 haN hR36.1 hx1 hs3 hR47.1 hR47.2.2
 have hf0:fs45[0]?=some f0:=by rw [hfs];rfl
 refine O.oo 3 H<|O.l (Lo.al Y36 H) H ?_
 rintro _ _ ⟨g49,rfl,rfl⟩
 refine O.one (Src.row 1 H) (fun hV50=>?_)
 refine O.one (Src.row 2 H) (fun hV51=>?_)
 refine O.l0 (Lo.st 0 Z36 H H H H H (by simp only [List.all_cons,List.all_nil,Bool.and_true,hV50,hV51]<;>rfl) H) ?_
 rintro _ _ rfl
 refine O.oo 7 H<|O.gz (Pu.qt (Pu.indexAddrK 0 U93 Z36 H H (by decide) (by decide) H)) H H<|O.oo 1 H<|O.gz (Qt.lv 23 A33 H H H) H H<|O.gz (Qt.lenM U33 H (Src.row 21 H)) H H<|O.oo 3 H<|O.kt 54 H (decide_eq_true (by rw [hl1];rfl))<|O.gz (Pu.qt (Pu.indexAddrK 2 U93 Z36 H H (by decide) (by decide) H)) H H<|O.oo 1 H<|O.gz (Qt.lv 23 A33 H H H) H H<|O.gz (Qt.lenM U33 H (Src.row 18 H)) H H<|O.oo 3 H<|O.kt 61 H (decide_eq_true (by rw [hl2];rfl))<|O.gz (Pu.qt (Pu.indexAddrK 4 U93 Z36 H H (by decide) (by decide) H)) H H<|O.oo 1 H<|O.gz (Qt.lv 23 A33 H H H) H H<|O.gz (Qt.lenM U33 H (Src.row 15 H)) H H<|O.oo 3 H<|O.kt 68 H (decide_eq_true (by rw [hl3];rfl))<|O.gz (Pu.qt (Pu.indexAddrK 4 U93 Z36 H H (by decide) (by decide) H)) H H ?_
 refine O.oo 1 H<|O.gz (Qt.lv 23 A33 H H H) H H<|O.gz (Qt.ix U33 Z51 H (Src.row 15 H) hv3 H (by rfl)) H H<|O.gz (Qt.lea isAgg51 Z51 (Src.row 15 H) hv3 0 H (by omega) H) H H<|O.gz (Pu.qt (Pu.build [(0,.int .i64 4),(3,.int .i64 2),(4,.int .i64 5),(5,.int .i64 3)] [.int .i64 4,.int .i64 0,.int .i64 0,.int .i64 2,.int .i64 5,.int .i64 3,.int .i64 0] #[(0,1),(1,1),(2,1),(3,1),(4,1),(5,1),(6,1)] runUnderlying51 Y51 (places51 N51) H (by kernel_rfl))) H H<|O.gz (Pu.qt (Pu.eqlI [(⟨4,0,0,2,5,3,0⟩:Ev).kind,(⟨4,0,0,2,5,3,0⟩:Ev).tick,(⟨4,0,0,2,5,3,0⟩:Ev).s,(⟨4,0,0,2,5,3,0⟩:Ev).id,(⟨4,0,0,2,5,3,0⟩:Ev).code,(⟨4,0,0,2,5,3,0⟩:Ev).a,(⟨4,0,0,2,5,3,0⟩:Ev).b] [4,0,0,2,5,3,0] N51 stoodInHeld51 eqGuardType51 (fint51 N51) H H H H)) H H<|O.oo 2 H<|O.kt 77 H (by rfl)<|O.oo 4 H<|O.kt 81 H (decide_eq_true he4)<|O.oo 1 H<|O.gz (Qt.lv 0 isAgg34 H H H) H H<|O.gz (Qt.lenM U34 H (Src.row 2 H)) H H<|O.oo 3 H<|O.kt 87 H (decide_eq_true (by rw [hfs];rfl))<|O.oo 1 H<|O.gz (Qt.lv 0 isAgg34 H H H) H H<|O.gz (Qt.ix U34 sizeOf62 H (Src.row 2 H) hf0 H (by rfl)) H H<|O.oo 2 H<|O.gz (Qt.le A3 (Src.row 2 H) hf0 10 H (by omega) H) H H ?_
 refine O.oo 3 H<|O.kt 96 H (decide_eq_true hrc)<|O.oo 1 H<|O.gy (Lo.ca call14 (nw_Jobs N Z41 hN hR47.1) [] H H (.own 3 H H (.own 6 H H (.own 7 H H (.own 8 H H .nil))))) H H ?_
 rintro v54 _ ⟨_,⟨jl52,hj53,rfl⟩,rfl⟩
 have hjq:=congrArg List.length hj53
 rw [List.length_map] at hjq
 refine O.gz (Qt.lenM runUnderlying57 H (Src.row 0 H)) H H<|O.oc 4 H ?_
 exact J.r0 H H ⟨(by rw [show ((jl52.length:Nat):Int)=1 from by omega];rfl),H⟩
end Go.Proofs.YtohjlkjhpibkmaaGreatDoor
namespace Go.LK.Nd
open Go Go.LK
section
variable {P P' P'' P2 Q:List Int} {v:Ev} {es es2:List Ev}
end
section
variable {es es2:List Ev} {fs fs2:List Fr} {N:Nc} {k:Kt} {now:Int}
end
section
variable {N:Nc} {now:Int} {k:Kt} {t t' js js' SS:List Im} {m m':List (Int×Jb)} {es es':List Ev} {fs fs':List Fr} {P:List Int} {x:Im} {code:Int}
end
section
variable {N:Nc} {Z Z':Sx} {a:Ad} {es:List Ev} {fs:List Fr} {e:Int}
theorem OnR.elen {now:Int} {t t' js js' SS:List Im} {m m':List (Int×Jb)} {es es':List Ev} (h:OnR N now t t' js js' m m' es es' SS):es'.length≤es.length+t.length:=by
  have h1:=h.t.length_eq;have h2:=h.len
  rw [List.length_append] at h1;omega
theorem OvR.elen {now:Int} {k:Kt} {t t' js js':List Im} {m m':List (Int×Jb)} {es es':List Ev} {fs fs':List Fr} {x:Im} {code:Int} (h:OvR N now k t t' js js' m m' es es' fs fs' x code):es'.length≤es.length+t.length+1∧fs'.length=fs.length+1:=by
  obtain ⟨js1,SS,_,ho,hf,_⟩:=h
  have h1:=ho.elen
  simp only [List.length_append,List.length_cons,List.length_nil] at h1
  exact ⟨by omega,by rw [hf];simp⟩
theorem qs_len (hN:N.Ok) (hS:Z.Ok N):Z.q.t.length≤64∧(its Z.ps).length≤16:=by
  have h1:=hS.q.hl;have h2:=hN.hq1;have h3:=its_le hS.i.hb;have h4:=hN.hw1
  omega
theorem do_len (hN:N.Ok) (hS:Z.Ok N) (h:DoR N Z a Z' es fs e):es.length≤1000∧fs.length≤1000:=by
  obtain ⟨hT,hJ⟩:=qs_len hN hS
  have herr:∀ {c:Int},Err Z Z' es fs e c→es.length≤1000∧fs.length≤1000:=fun h=>by rw [h.es,h.fs];simp
  rcases h with ⟨_,h⟩|⟨_,h⟩|⟨_,h⟩|⟨_,h⟩|⟨_,h⟩|⟨_,h⟩|⟨_,h⟩|⟨_,h,h1,h2,_⟩
  · rcases h with ⟨_,h⟩|⟨_,_,_,_,⟨_,rfl,rfl,_⟩|⟨htw,k1,t1,es1,SS,_,hl,ho,_⟩⟩
    · exact herr h
    · simp
    · have h1:=ho.elen
      rcases hl with ⟨_,rfl,rfl,rfl⟩|⟨_,hl⟩
      · simp at h1 ⊢;omega
      · have h2:=hl.len
        have h3:t1.length≤Z.q.t.length+1:=by
          rcases hl with ⟨_,hp,_⟩|⟨_,y,hp,_⟩
          · have:=hp.length_eq;simp at this;omega
          · have:=hp.length_eq;simp at this;omega
        simp only [List.length_cons,List.length_nil] at h2;omega
  · rcases h with ⟨_,h⟩|⟨j,hj,⟨_,h⟩|⟨_,_,_,_,js1,m1,es1,SS,hca,ho,_⟩⟩
    · exact herr h
    · exact herr h
    · have h1:=ho.elen;have h2:=hca.len
      simp only [List.length_nil] at h2;omega
  · rcases h with ⟨_,h⟩|⟨j,_,⟨_,h⟩|⟨_,_,_,_,h⟩⟩
    · exact herr h
    · exact herr h
    · have:=h.elen;simp only [List.length_nil] at this;omega
  · rcases h with ⟨_,h⟩|⟨_,_,_,_,es1,w,⟨q,rfl,hq⟩,h⟩
    · exact herr h
    · have hq1:q.length≤1:=by rcases hq with rfl|rfl<;>simp
      rcases h with ⟨rfl,rfl,_⟩|⟨jid,j,hj,⟨_,_,rfl,rfl,_⟩|⟨code,_,h⟩⟩
      · simp;omega
      · simp;omega
      · have:=h.elen;simp only [List.length_append,List.length_cons,List.length_nil] at this;omega
  · rcases h with ⟨_,h⟩|⟨_,_,_,_,_,hq,hp,_,b,rfl,rfl⟩
    · exact herr h
    · simp
  · obtain ⟨_,_,_,_,o,t1,D,js1,m1,es1,es2,fs1,SS,k1,ho,ht,hl,_,hm,hn,rfl,_⟩:=h
    have h1:=hn.elen;have h2:=hl.len;have h3:=hl.num;have h4:=ho.length_eq;have h5:=ht.length_eq
    have h6:(Kept o Z'.now o.length).length≤o.length:=by unfold Kept;exact Nat.le_trans (List.length_filter_le _ _) (by rw [List.length_take];omega)
    have h7:(Gone o Z'.now o.length).length≤o.length:=by unfold Gone;exact Nat.le_trans (List.length_filter_le _ _) (by rw [List.length_take];omega)
    simp only [List.length_map] at h2
    have h8:es2.length≤es1.length+1:=by
      rcases hm with ⟨_,rfl,_⟩|⟨_,_,vd,rfl⟩<;>simp
    omega
  · obtain ⟨_,rfl,_,_,_,_,_,_,_,_,_,_,_,_,o,ho,rfl⟩:=h
    have:=ho.length_eq
    simp;omega
  · rw [h1,h2];simp
section
variable {O O1 O':List Int} {v:Ev}
end
end
end Go.LK.Nd
namespace Go.LK.Nd
open Go Go.LK
def NoC (es:List Ev):Prop:=∀ v∈es,v.kind≠1∧(v.kind=4→v.code≠5)
section
variable {N:Nc} {now:Int} {k:Kt} {t t' js js' SS:List Im} {m m':List (Int×Jb)} {es es' es2:List Ev} {fs fs':List Fr} {x:Im} {code:Int} {l:List Im}
theorem NoC.nil:NoC []:=fun v hv=>by simp at hv
theorem NoC.app (h:NoC es) (h2:NoC es2):NoC (es++es2):=fun v hv=>(List.mem_append.1 hv).elim (h v) (h2 v)
theorem NoC.one {v:Ev} (h:v.kind≠1) (h2:v.kind=4→v.code≠5):NoC [v]:=fun u hu=>by obtain rfl:=List.mem_singleton.1 hu;exact ⟨h,h2⟩
theorem NoC.ends {g:Im→Int} (h:∀ y∈l,g y≠5):NoC (l.map fun y=>endE now N.self (y,g y)):=fun v hv=>by
  obtain ⟨y,hy,rfl⟩:=List.mem_map.1 hv
  exact ⟨by show (4:Int)≠1;decide,fun _=>h y hy⟩
theorem OnR.noc (h:OnR N now t t' js js' m m' es es' SS) (hb:NoC es):NoC es':=by
  rw [h.e]
  refine hb.app fun v hv=>?_
  obtain ⟨y,hy,rfl⟩:=List.mem_map.1 hv
  exact ⟨by show (3:Int)≠1;decide,fun h=>by exact absurd (show (3:Int)=4 from h) (by decide)⟩
theorem OvR.noc (h:OvR N now k t t' js js' m m' es es' fs fs' x code) (hc:code≠5) (hb:NoC es):NoC es':=by
  obtain ⟨js1,SS,_,ho,_⟩:=h
  exact ho.noc (hb.app (NoC.one (by show (4:Int)≠1;decide) fun _=>hc))
theorem OnR.sub (h:OnR N now t t' js js' m m' es es' SS):∀ z∈t',z∈t:=fun z hz=>h.t.mem_iff.2 (List.mem_append_right _ hz)
end
structure MoF (Z Z':Sx) (es:List Ev):Prop where
  g:∀ v∈es,v.kind=1→(v.code=0→v.a < Z'.k.thr)∧(v.code=2→Z'.k.thr≤v.a)
  t:Z'.k.thr=Z.k.thr∨((∀ v∈es,v.kind≠1)∧∃ v∈es,v.kind=9∨v.kind=10∨v.kind=11)
  e:∀ v∈es,v.kind=4→v.code=5→∀ z∈Z'.q.t,z.level≤v.a
section
variable {N:Nc} {Z Z':Sx} {a:Ad} {es:List Ev} {fs:List Fr} {e:Int}
theorem MoF.of (h:NoC es) (ht:Z'.k.thr=Z.k.thr∨∃ v∈es,v.kind=9∨v.kind=10∨v.kind=11):MoF Z Z' es :=
  ⟨fun v hv hk=>absurd hk (h v hv).1,ht.imp id fun h1=>⟨fun v hv=>(h v hv).1,h1⟩,fun v hv hk hc=>absurd hc ((h v hv).2 hk)⟩
theorem MoF.err {c:Int} (h:Err Z Z' es fs e c):MoF Z Z' es:=by rw [h.es];exact .of .nil (.inl (by rw [h.s]))
theorem comes_zero {now thr level dl:Int} (h:comes now thr level dl=0):now < dl∧0≤level∧level < thr:=by
  unfold comes at h
  split at h
  · cases h
  · split at h
    · rename_i h1 h2
      simp only [Sh.passes,Bool.and_eq_true,decide_eq_true_eq] at h2
      exact ⟨by omega,h2⟩
    · cases h
theorem comes_two {now thr level dl:Int} (h0:0≤level) (h:comes now thr level dl=2):thr≤level:=by
  unfold comes at h
  split at h
  · cases h
  · split at h
    · cases h
    · rename_i h1 h2
      simp only [Sh.passes,Bool.and_eq_true,decide_eq_true_eq] at h2
      omega
theorem comes_not {now thr level dl:Int}:comes now thr level dl≠5:=by unfold comes;(repeat' split)<;>decide
theorem right_level {id fr to level dl bu:Int} (h:rightQ N id fr to level dl bu=true):0≤level∧0≤bu:=by
  unfold rightQ at h
  simp only [Bool.and_eq_true] at h
  obtain ⟨_,_,_,h4,_,h6,_⟩:=okQ_iff.1 h.1.1.1
  omega
theorem mo_req {id fr to level dl bu:Int} (h:ReqR N Z id fr to level dl bu Z' es fs e):MoF Z Z' es:=by
  rcases h with ⟨_,h⟩|⟨hr,_,_,hst,⟨_,rfl,rfl,hq,hp,_⟩|⟨htw,k1,t1,es1,SS,hk,hl,ho,_⟩⟩
  · exact .err h
  · exact .of (.one (by show (2:Int)≠1;decide) fun h=>by exact absurd (show (2:Int)=4 from h) (by decide)) (.inl hst.k.thr)
  · have hg:∀ v:Ev,v=⟨1,Z.now,N.self,id,comes Z.now k1.thr level dl,level,k1.thr⟩→(v.code=0→v.a < Z'.k.thr)∧(v.code=2→Z'.k.thr≤v.a):=fun v hv=>by
      subst hv
      have h1:=hst.k.thr;have h2:=hk.thr
      refine ⟨fun h=>?_,fun h=>?_⟩
      · have:=comes_zero h;show level < _;omega
      · have:=comes_two (right_level hr).1 h;show _≤level;omega
    have hsta:∀ v∈SS.map (staE Z.now N.self),v.kind=3:=fun v hv=>by obtain ⟨y,_,rfl⟩:=List.mem_map.1 hv;rfl
    rcases hl with ⟨_,rfl,rfl,rfl⟩|⟨_,hl⟩
    · refine ⟨fun v hv hk=>?_,.inl hst.k.thr,fun v hv hk hc=>?_⟩
      · rw [ho.e] at hv
        simp only [List.mem_append,List.mem_cons,List.not_mem_nil,or_false] at hv
        rcases hv with (hv|hv)|hv
        · exact hg v hv
        · rw [hv] at hk;exact absurd (show (4:Int)=1 from hk) (by decide)
        · have:=hsta v hv;omega
      · rw [ho.e] at hv
        simp only [List.mem_append,List.mem_cons,List.not_mem_nil,or_false] at hv
        rcases hv with (hv|hv)|hv
        · rw [hv] at hk;exact absurd (show (1:Int)=4 from hk) (by decide)
        · rw [hv] at hc;exact absurd hc comes_not
        · have:=hsta v hv;omega
    · rcases hl with ⟨_,hp,rfl,_⟩|⟨_,y,hp,hz,rfl,_⟩
      · refine ⟨fun v hv hk=>?_,.inl hst.k.thr,fun v hv hk hc=>?_⟩
        · rw [ho.e] at hv
          simp only [List.mem_append,List.mem_cons,List.not_mem_nil,or_false] at hv
          rcases hv with hv|hv
          · exact hg v hv
          · have:=hsta v hv;omega
        · rw [ho.e] at hv
          simp only [List.mem_append,List.mem_cons,List.not_mem_nil,or_false] at hv
          rcases hv with hv|hv
          · rw [hv] at hk;exact absurd (show (1:Int)=4 from hk) (by decide)
          · have:=hsta v hv;omega
      · refine ⟨fun v hv hk=>?_,.inl hst.k.thr,fun v hv hk hc=>?_⟩
        · rw [ho.e] at hv
          simp only [List.mem_append,List.mem_cons,List.not_mem_nil,or_false] at hv
          rcases hv with (hv|hv)|hv
          · exact hg v hv
          · rw [hv] at hk;exact absurd (show (4:Int)=1 from hk) (by decide)
          · have:=hsta v hv;omega
        · rw [ho.e] at hv
          simp only [List.mem_append,List.mem_cons,List.not_mem_nil,or_false] at hv
          rcases hv with (hv|hv)|hv
          · rw [hv] at hk;exact absurd (show (1:Int)=4 from hk) (by decide)
          · rw [hv];exact fun z hz'=>hz z (ho.sub z hz')
          · have:=hsta v hv;omega
theorem ends_not {x:Im} {now:Int}:ends x now≠5:=by unfold ends;(repeat' split)<;>decide
theorem mo_fact (h:DoR N Z a Z' es fs e):MoF Z Z' es:=by
  rcases h with ⟨_,h⟩|⟨_,h⟩|⟨_,h⟩|⟨_,h⟩|⟨_,h⟩|⟨_,h⟩|⟨_,h⟩|⟨_,h,h1,h2,_⟩
  · exact mo_req h
  · rcases h with ⟨_,h⟩|⟨j,hj,⟨_,h⟩|⟨_,_,hst,_,js1,m1,es1,SS,hca,ho,_⟩⟩
    · exact .err h
    · exact .err h
    · refine .of (ho.noc ?_) (.inl hst.k.thr)
      obtain ⟨C,G,hC,_,_,_,_,hca⟩:=hca
      have hC1:NoC C:=fun v hv=>by have:=(hC v hv).1;exact ⟨by omega,fun h=>by omega⟩
      rcases hca with ⟨code,hcd,_,_,_,rfl,_⟩|⟨_,_,rfl,_⟩
      · exact (NoC.nil.app hC1).app (.one (by show (4:Int)≠1;decide) fun _=>by show code≠5;omega)
      · exact NoC.nil.app hC1
  · rcases h with ⟨_,h⟩|⟨j,_,⟨_,h⟩|⟨_,_,hst,_,h⟩⟩
    · exact .err h
    · exact .err h
    · exact .of (h.noc (by decide) .nil) (.inl hst.k.thr)
  · rcases h with ⟨_,h⟩|⟨_,_,hst,_,es1,w,⟨q,rfl,hq⟩,h⟩
    · exact .err h
    · have h1:NoC (q++[⟨7,Z.now,N.self,a.ri,a.rc,a.rf,w⟩]):=by
        refine NoC.app ?_ (.one (by show (7:Int)≠1;decide) fun h=>by exact absurd (show (7:Int)=4 from h) (by decide))
        rcases hq with rfl|rfl
        · exact .nil
        · exact .one (by show (8:Int)≠1;decide) fun h=>by exact absurd (show (8:Int)=4 from h) (by decide)
      rcases h with ⟨rfl,rfl,_⟩|⟨jid,j,hj,⟨_,_,rfl,rfl,_⟩|⟨code,hcd,h⟩⟩
      · exact .of h1 (.inl hst.k.thr)
      · exact .of h1 (.inl hst.k.thr)
      · exact .of (h.noc (by omega) h1) (.inl hst.k.thr)
  · rcases h with ⟨_,h⟩|⟨_,_,_,hk,_,hq,hp,_,b,rfl,rfl⟩
    · exact .err h
    · exact .of (.one (by show (10:Int)≠1;decide) fun h=>by exact absurd (show (10:Int)=4 from h) (by decide)) (.inl hk.thr)
  · obtain ⟨_,_,_,_,o,t1,D,js1,m1,es1,es2,fs1,SS,k1,ho,ht,hl,_,hm,hn,rfl,_,hs⟩:=h
    have h1:NoC es1:=by
      rw [hl.e]
      exact (NoC.ends fun y _=>ends_not).app (NoC.ends (g:=fun _=>6) fun y _=>by decide)
    rcases hm with ⟨_,rfl,rfl⟩|⟨_,_,vd,rfl⟩
    · exact .of (hn.noc h1) (.inl hs.thr)
    · refine .of (hn.noc (h1.app (.one (by show (9:Int)≠1;decide) fun h=>by exact absurd (show (9:Int)=4 from h) (by decide)))) (.inr ?_)
      rw [hn.e]
      exact ⟨⟨9,Z'.now,N.self,k1.ep,vd,k1.thr,k1.tier⟩,by simp,.inl rfl⟩
  · obtain ⟨_,rfl,_,_,_,_,_,_,_,_,_,_,_,_,o,ho,rfl⟩:=h
    refine .of (NoC.app (fun v hv=>?_) (.one (by show (11:Int)≠1;decide) fun h=>by exact absurd (show (11:Int)=4 from h) (by decide))) (.inr ⟨_,List.mem_append_right _ List.mem_cons_self,.inr (.inr rfl)⟩)
    obtain ⟨y,_,rfl⟩:=List.mem_map.1 hv
    exact ⟨by show (12:Int)≠1;decide,fun h=>by exact absurd (show (12:Int)=4 from h) (by decide)⟩
  · rw [h1];exact .of .nil (.inl (by rw [h]))
end
def MoI (thr:Int) (es:List Ev) (k:Nat) (pa sto:Int):Prop :=
  (pa < thr∧thr≤sto)∨((∀ v∈es,v.kind≠1)∧∃ v∈es.drop k,v.kind=9∨v.kind=10∨v.kind=11)
section
variable {Z Z':Sx} {es:List Ev} {thr pa sto:Int} {k:Nat} {v:Ev}
theorem MoI.start (h:MoF Z Z' es) (h1:pa < Z.k.thr) (h2:Z.k.thr≤sto):MoI Z'.k.thr es 0 pa sto:=by
  rcases h.t with ht|ht
  · exact .inl ⟨by omega,by omega⟩
  · exact .inr ht
theorem MoI.rst (h0:0≤thr) (h1:thr≤128):MoI thr es k (-1) 1000:=.inl ⟨by omega,by omega⟩
theorem MoI.stay (h:MoI thr es k pa sto) (hv:es[k]?=some v) (h9:v.kind≠9) (h10:v.kind≠10) (h11:v.kind≠11):MoI thr es (k+1) pa sto:=by
  rcases h with h|⟨h1,u,hu,h2⟩
  · exact .inl h
  · obtain ⟨hk,hv⟩:=List.getElem?_eq_some_iff.1 hv
    rw [List.drop_eq_getElem_cons hk,hv,List.mem_cons] at hu
    rcases hu with rfl|hu
    · omega
    · exact .inr ⟨h1,u,hu,h2⟩
theorem MoI.came (h:MoI thr es k pa sto) (hv:es[k]?=some v) (hk:v.kind=1):pa < thr∧thr≤sto:=by
  rcases h with h|⟨h1,_⟩
  · exact h
  · exact absurd hk (h1 v (List.mem_of_getElem? hv))
theorem MoI.stop (h:MoI thr es k pa sto) (hk:¬k < es.length):pa < thr∧thr≤sto:=by
  rcases h with h|⟨_,u,hu,_⟩
  · exact h
  · rw [List.drop_eq_nil_of_le (by omega)] at hu;simp at hu
theorem mo_evict {o:List Im} {x:Im} {i:Nat} (h:MoF Z Z' es) (hv:es[k]?=some v) (h4:v.kind=4) (h5:v.code=5) (ho:o.Perm Z'.q.t) (hx:o[i]?=some x):x.level≤v.a :=
  h.e v (List.mem_of_getElem? hv) h4 h5 x (ho.mem_iff.1 (List.mem_of_getElem? hx))
end
end Go.LK.Nd
