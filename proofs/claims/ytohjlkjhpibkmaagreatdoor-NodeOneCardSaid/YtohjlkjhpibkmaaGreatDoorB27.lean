/-
  Rules and plain laws that the walks use.
-/
import Derived.KernelRfl
import Derived.Test.YtohjlkjhpibkmaaGreatDoorB26
import Derived.Test.YtohjlkjhpibkmaaGreatDoorB03
import Derived.Test.YtohjlkjhpibkmaaGreatDoorB24
set_option linter.unusedSimpArgs false
set_option linter.unusedVariables false
namespace Go.Proofs.YtohjlkjhpibkmaaGreatDoor
open Go Go.LK Go.Proofs.Tryz
set_option maxRecDepth 100000
set_option maxHeartbeats 4000000
theorem tb_AllN (p:Nat) (ttl:Int) (d:Sh.Ts) (now:Int):Tri prog 47 #[.pointer (some ⟨p,0,none⟩),.int .i64 now] [var p (Sh.tbC ttl d) 215] [] (fun v L'=>∃ o:List Kw,(d=Sh.nil→o=[])∧L'=[row v 175 4 (o.map Kw.cells)]):=by
 refine Tri.en func47 H ntmps47 H fun w0=>J.cc 10 H<|J.nr 175 4 (([]:List Kw).map Kw.cells) H<|J.cc 4 H ?_
 refine J.lo (X:=Nat×Value×List Kw) (fun (i,V,o)=>i≤8∧o.length≤i∧(d=Sh.nil→o=[])) (fun (i,V,o)=>[(5,V),(9,.int .i64 (i:Int))]) (fun (i,V,o)=>[row V 175 4 (o.map Kw.cells)]) (fun (i,V,o)=>8-i) ⟨0,Value.slice none 0 0,[]⟩ [0,1,4] [0] [] ⟨by omega,by simp,fun _=>rfl⟩ ⟨H,(eqi (by omega)),trivial⟩ H H ?_
 rintro ⟨i,V,o⟩ ⟨hi,hol,hnil⟩
 refine J.cc 5 H ?_
 refine J.cd H (fun p1=>?_) (fun p1=>?_)
 ·
  refine J.co 13 H<|O.l (Lo.ca call120 (tb_Get p ttl d (i:Int) now) [] H H (.ro 0 H .nil)) H ?_
  rintro _ _ ⟨_,⟨rfl,rfl⟩,rfl⟩
  refine O.oo 3 H<|O.l (Lo.al Y175 H) H ?_
  rintro _ _ ⟨g3,rfl,rfl⟩
  refine O.l0 (Lo.st 0 Z175 H H H H H H H) ?_
  rintro _ _ rfl
  refine O.oc 6 H ?_
  refine J.cond H (fun h4=>?_) (fun h4=>?_)
  ·
   refine J.co 2 H<|O.q (Qt.lva 0 A175 Z175 H H H) H<|O.l (Lo.bm Kw.cells [(Sh.get d ttl (i:Int) now).1] runUnderlying71 Z175 Y175 H H H (by kernel_rfl) H H) H ?_
   rintro V5 _ rfl
   refine O.l (Lo.am 2 underlying71 info175 H H H H H (Src.row 0 H) Kw.one (by first|omega|(simp only [List.length_append,List.length_cons,List.length_nil,List.length_set];omega)) (by first|omega|(simp only [List.length_append,List.length_cons,List.length_nil,List.length_set];omega))) H ?_
   rintro V6 _ rfl
   refine O.oo 4 H<|O.p (Pu.add' H H (by omega)) H<|O.oc 2 H ?_
   exact J.lq ⟨i+1,V6,o++([(Sh.get d ttl (i:Int) now).1])⟩ [0,1,4] [2] [] ⟨by omega,by first|omega|(simp only [List.length_append,List.length_cons,List.length_nil];omega),(fun h_=>by have h2_:=h4;rw [h_,Nd.get_nil] at h2_;cases h2_)⟩ (by dsimp only;omega) ⟨H,(eqi (by omega)),trivial⟩ H H
  refine J.co 3 H<|O.p (Pu.add' H H (by omega)) H<|O.oc 2 H ?_
  exact J.lq ⟨i+1,V,o⟩ [0,1,4] [1] [] ⟨by omega,by first|omega|(simp only [List.length_append,List.length_cons,List.length_nil];omega),hnil⟩ (by dsimp only;omega) ⟨H,(eqi (by omega)),trivial⟩ H H
 refine J.cc 6 H ?_
 exact J.r1 [0] H H H ⟨_,hnil,H⟩
theorem nw_Queue (N:Nd.Nc) (Z:Nd.Sx) (hN:N.Ok) (hS:Z.Ok N):Tri prog 13 #[.pointer (some ⟨N.n,0,none⟩)] [var N.n (Nd.nC N Z.now Z.ver Z.many Z.calls) 90,qu N Z.q] [] (fun v L'=>∃ o:List Im,o.Perm Z.q.t∧L'=[row v 66 7 (o.map Im.cells)]):=by
 refine Tri.en func13 H ntmps13 H fun w0=>J.co 8 H<|O.l (Lo.ca call39 (nw_made N Z.now Z.ver Z.many Z.calls) [] H H (.ro 0 H .nil)) H ?_
 rintro _ _ ⟨_,⟨rfl,rfl⟩,rfl⟩
 refine O.oo 9 H<|O.q (Qt.lw 0 A84 H H H) H<|O.l (Lo.ca call40 (qw_All N Z.q hN hS.q) [] H H (.ro 1 H .nil)) H ?_
 rintro v4 _ ⟨_,⟨o2,ho3,rfl⟩,rfl⟩
 have hol:=ho3.length_eq
 refine O.oc 2 H ?_
 exact J.r1 [0] H H H ⟨o2,ho3,H⟩
theorem nw_Seen (N:Nd.Nc) (Z:Nd.Sx) (hN:N.Ok) (hS:Z.Ok N):Tri prog 22 #[.pointer (some ⟨N.n,0,none⟩)] [var N.n (Nd.nC N Z.now Z.ver Z.many Z.calls) 90,se N Z.sn] [] (fun v L'=>∃ o:List Int,(o.length:Int)=Z.sn.n∧L'=[row v 3 1 (o.map encZ)]):=by
 refine Tri.en func22 H ntmps22 H fun w0=>J.co 8 H<|O.l (Lo.ca call39 (nw_made N Z.now Z.ver Z.many Z.calls) [] H H (.ro 0 H .nil)) H ?_
 rintro _ _ ⟨_,⟨rfl,rfl⟩,rfl⟩
 refine O.oo 9 H<|O.q (Qt.lw 0 isAgg83 H H H) H<|O.l (Lo.ca call48 (sn_All N Z.sn hS.sn) [] H H (.ro 1 H .nil)) H ?_
 rintro v4 _ ⟨_,⟨o2,hol3,rfl⟩,rfl⟩
 refine O.oc 2 H ?_
 exact J.r1 [0] H H H ⟨o2,hol3,H⟩
theorem nw_Known (N:Nd.Nc) (Z:Nd.Sx) (hN:N.Ok) (hS:Z.Ok N):Tri prog 21 #[.pointer (some ⟨N.n,0,none⟩)] [var N.n (Nd.nC N Z.now Z.ver Z.many Z.calls) 90,var N.tb (Sh.tbC N.ttl Z.d) 215] [] (fun v L'=>∃ o:List Kw,(Z.d=Sh.nil→o=[])∧L'=[row v 175 4 (o.map Kw.cells)]):=by
 refine Tri.en func21 H ntmps21 H fun w0=>J.co 8 H<|O.l (Lo.ca call39 (nw_made N Z.now Z.ver Z.many Z.calls) [] H H (.ro 0 H .nil)) H ?_
 rintro _ _ ⟨_,⟨rfl,rfl⟩,rfl⟩
 refine O.oc 5 H<|J.drawTail 8 Tryz.mixed (by kernel_rfl)<|S.r 3 H<|S.q (Qt.lw 0 A88 H H H) H<|S.r 3 H ?_
 refine S.q (Qt.lw 0 A3 H H H) H<|S.endO<|O.l (Lo.ca call47 (tb_AllN N.tb N.ttl Z.d Z.now) [] H H (.ro 1 H .nil)) H ?_
 rintro v4 _ ⟨_,⟨o2,hnil3,rfl⟩,rfl⟩
 refine O.oc 2 H ?_
 exact J.r1 [0] H H H ⟨o2,hnil3,H⟩
theorem nw_Jobs (N:Nd.Nc) (Z:Nd.Sx) (hN:N.Ok) (hS:Z.Ok N):Tri prog 14 #[.pointer (some ⟨N.n,0,none⟩)] [var N.n (Nd.nC N Z.now Z.ver Z.many Z.calls) 90,sl N Z.ps,mi N.jb Nd.jobV Z.jm,bun (Nd.nRows 3 Z.jm)] [] (fun v L'=>∃ l:List Jo,l.map Jo.x=Nd.its Z.ps∧L'=[row v 68 9 (l.map Jo.cells)]):=by
 refine Tri.en func14 H ntmps14 H fun w0=>J.co 8 H<|O.l (Lo.ca call39 (nw_made N Z.now Z.ver Z.many Z.calls) [] H H (.ro 0 H .nil)) H ?_
 rintro _ _ ⟨_,⟨rfl,rfl⟩,rfl⟩
 refine O.oc 10 H<|J.nr 68 9 (([]:List Jo).map Jo.cells) H<|J.co 4 H<|O.q (Qt.lw 0 A85 H H H) H<|O.l (Lo.ca call41 (sw_All N Z.ps hN hS.i.hl hS.i.hb) [] H H (.ro 1 H .nil)) H ?_
 rintro v2 _ ⟨_,rfl,rfl⟩
 refine O.q (Qt.lenM U52 H (Src.row 0 H)) H<|O.oc 3 H ?_
 refine J.lo (X:=Nat×Value×List Jo) (fun (i,W,l)=>i≤(Nd.its Z.ps).length∧l.map Jo.x=(Nd.its Z.ps).take i) (fun (i,W,l)=>[(3,W),(16,.int .i64 (i:Int))]) (fun (i,W,l)=>[row W 68 9 (l.map Jo.cells)]) (fun (i,W,l)=>(Nd.its Z.ps).length-i) ⟨0,Value.slice none 0 0,[]⟩ [0,2,14,15] [1] [0] ⟨by omega,rfl⟩ ⟨H,(eqi (by omega)),trivial⟩ H H ?_
 rintro ⟨i,W,l⟩ ⟨hi,hst⟩
 refine J.cc 5 H ?_
 refine J.cd H (fun p3=>?_) (fun p3=>?_)
 ·
  refine J.co 5 H ?_
  obtain ⟨e4,he4⟩:=ex_at (l:=Nd.its Z.ps) (i:=i) (by omega)
  refine O.q (Qt.ix U52 Z66 H (Src.row 1 H) he4 H (by rfl)) H<|O.q (Qt.lea A66 Z66 (Src.row 1 H) he4 0 H (by omega) H) H<|O.l (Lo.al Y66 H) H ?_
  rintro _ _ ⟨g5,rfl,rfl⟩
  refine O.l0 (Lo.st 0 Z66 H H H H H H H) ?_
  rintro _ _ rfl
  refine O.oc 2 H ?_
  obtain ⟨j,hj,hjx⟩:=hS.i.j.has e4 (List.mem_of_getElem? he4)
  refine J.drawNew 8 7 6 [.int .i64 0,.int .i64 0,.int .i64 0,.int .i64 0,.int .i64 0,.int .i64 0,.int .i64 0,.int .i64 0,Value.slice none 0 0] Tryz.mixed (by kernel_rfl) H H (by exact Y68) H<|Hd.p (Pu.move H) H<|Hd.p (Pu.nilCheck H) H<|Hd.p (Pu.fieldAddr (off':=28) U90 H sizeOf86 H H H) H<|Hd.q (Qt.lw 0 A86 H H H) H ?_
  refine Hd.p (Pu.fieldAddr (off':=0) U66 H Z3 H H H) H<|Hd.q (Qt.lv 0 A3 H H H) H<|Hd.q (Qt.lkI (V:=.agg #[.int .i64 e4.id,.int .i64 e4.level,.int .i64 e4.from_,.int .i64 e4.deadline,.int .i64 e4.budget,.int .i64 e4.since,.int .i64 e4.seq,.int .i64 j.ph,j.v]) N86 N3 Y68 H H (Mc.ro 2 N.jb H H) (by rw [hj,←hjx];rfl)) H<|Hd.new H<|Hd.nil ?_
  intro g6
  refine O.l0 (Lo.st 0 Z68 H H H H H (by simp only [List.all_cons,List.all_nil,Bool.and_true,(hS.i.j.one hj)]<;>rfl) H) ?_
  rintro _ _ rfl
  refine O.oc 2 H<|J.bro 3 H (Nd.nRows_rd hj)<|J.region<|O.l (Lo.buildE encZ U60 Z3) H ?_
  rintro V7 _ rfl
  refine O.oo 1 H<|O.q (Qt.lv 1 A60 H H H) H<|O.l (Lo.am 0 N60 info3 H H H H H (Src.ro 4 H) encZ.one (by first|omega|(have h3_:=Nd.its_le hS.i.hb;have h4_:=hN.hw1;first|omega|(have h5_:=congrArg List.length hst;simp only [List.length_map,List.length_take] at h5_;simp only [List.length_append,List.length_cons,List.length_nil];omega)|(have h5_:=(hS.i.j.job _ _ hj).2.2.nl;simp only [List.length_append,List.length_cons,List.length_nil];omega))) (by first|omega|(have h3_:=Nd.its_le hS.i.hb;have h4_:=hN.hw1;first|omega|(have h5_:=congrArg List.length hst;simp only [List.length_map,List.length_take] at h5_;simp only [List.length_append,List.length_cons,List.length_nil];omega)|(have h5_:=(hS.i.j.job _ _ hj).2.2.nl;simp only [List.length_append,List.length_cons,List.length_nil];omega)))) H ?_
  rintro V8 _ rfl
  refine O.oo 1 H ?_
  refine O.one (Src.row 0 H) (fun hV9=>?_)
  refine O.l0 (Lo.so 1 Z60 hV9 H H H H) ?_
  rintro _ _ rfl
  refine O.nil ?_
  refine J.one (Src.row 0 H) (fun hV10=>?_)
  refine J.co 2 H<|O.q (Qt.lva 1 A68 Z68 H H H) H<|O.l (Lo.bm Jo.cells [(⟨e4,j.ph,V8,hV10⟩:Jo)] U57 Z68 Y68 H H H (by cases V8<;>first|(simp [Value.oneCell'] at hV10;done)|kernel_rfl) H H) H ?_
  rintro V11 _ rfl
  refine O.l (Lo.am 4 underlying57 info68 H H H H H (Src.row 0 H) Jo.one (by first|omega|(have h3_:=Nd.its_le hS.i.hb;have h4_:=hN.hw1;first|omega|(have h5_:=congrArg List.length hst;simp only [List.length_map,List.length_take] at h5_;simp only [List.length_append,List.length_cons,List.length_nil];omega)|(have h5_:=(hS.i.j.job _ _ hj).2.2.nl;simp only [List.length_append,List.length_cons,List.length_nil];omega))) (by first|omega|(have h3_:=Nd.its_le hS.i.hb;have h4_:=hN.hw1;first|omega|(have h5_:=congrArg List.length hst;simp only [List.length_map,List.length_take] at h5_;simp only [List.length_append,List.length_cons,List.length_nil];omega)|(have h5_:=(hS.i.j.job _ _ hj).2.2.nl;simp only [List.length_append,List.length_cons,List.length_nil];omega)))) H ?_
  rintro V12 _ rfl
  refine O.oo 4 H<|O.p (Pu.add' H H (by first|omega|(have h3_:=Nd.its_le hS.i.hb;have h4_:=hN.hw1;omega))) H<|O.oc 2 H ?_
  exact J.lq ⟨i+1,V12,l++([(⟨e4,j.ph,V8,hV10⟩:Jo)])⟩ [0,2,14,15] [4] [5] ⟨by omega,(by rw [List.map_append,hst,List.take_add_one,he4];rfl)⟩ (by dsimp only;omega) ⟨H,(eqi (by omega)),trivial⟩ H H
 refine J.cc 6 H ?_
 exact J.r1 [0] H H H ⟨_,(by rw [hst,List.take_of_length_le (by omega)]),H⟩
end Go.Proofs.YtohjlkjhpibkmaaGreatDoor
namespace Go.LK.Nd
open Go Go.LK
structure NewF (b c:Int) (l:List Sg) (e:Sg):Prop where
  bc0:1≤Si.mulC b c
  bc1:Si.mulC b c≤128
  w0:1≤e.x0
  w1:e.x0≤16
  q0:1≤e.x1
  q1:e.x1≤64
  i0:1≤e.x2
  i1:e.x2≤64
  t0:0≤e.x3
  t1:e.x3≤7
  s0:0≤e.x4
  s1:e.x4≤256
  l0:0≤e.x5
  l1:e.x5≤1099511627776
  cl:e.cl.length≤6
  n8:l.length≤8
  kn:Kn.check [e.x6,e.x7,e.x8,e.x9,e.x10,e.x11,e.x12] (Si.mulC b c)=0
theorem keep_in {n m:Int} (h0:0≤n) (h1:n≤m):Si.keep n m=n:=by unfold Si.keep;(repeat' split)<;>omega
theorem mulC_id {b c:Int} (h:Si.okL b c=true):Si.mulC b c=b*c:=by
  have h1:=Si.mul_bnd h
  obtain ⟨h2,h3,h4,h5⟩:=Si.okL_iff.1 h
  unfold Si.mulC
  rw [keep_in (n:=b) (by omega) (by omega),keep_in (n:=c) (by omega) (by omega)]
  have hw:IntKind.i64.wrap (b*c)=b*c:=in_i64 (by omega)
  rw [hw,keep_in (by omega) (by omega)]
theorem new_facts {b c r self:Int} {l:List Sg} {e:Sg} (h:Si.chk b c r l=0) (h0:0≤self) (h1:self < (l.length:Int)) (he:l[self.toNat]?=some e):NewF b c l e:=by
  unfold Si.chk at h
  split at h
  · rename_i hh
    simp only [Bool.and_eq_true,decide_eq_true_eq] at hh
    obtain ⟨⟨⟨hL,_⟩,_⟩,hN⟩:=hh
    have hc:Cf.check e.nums e.cl self (l.length:Int) (b*c)=0:=by
      unfold Si.chkN at hN
      rw [List.all_eq_true] at hN
      have h2:=hN self.toNat (List.mem_range.2 (by omega))
      rw [he] at h2
      simp only [decide_eq_true_eq] at h2
      rwa [show ((self.toNat:Nat):Int)=self from by omega] at h2
    have hm:=Si.check_many hc
    unfold Cf.check at hc
    split at hc
    · rename_i hq
      simp only [Bool.and_eq_true] at hq
      obtain ⟨⟨_,hr⟩,hk⟩:=hq
      have hbc:=mulC_id hL
      have hb:=Si.mul_bnd hL
      simp only [Cf.roomOk,Sg.nums,Bool.and_eq_true] at hr
      obtain ⟨⟨⟨⟨⟨r0,r1⟩,r2⟩,r3⟩,r4⟩,r5⟩:=hr
      have r0:=Cf.from_bnd r0;have r1:=Cf.from_bnd r1;have r2:=Cf.from_bnd r2;have r3:=Cf.from_bnd r3;have r4:=Cf.from_bnd r4;have r5:=Cf.from_bnd r5
      unfold Cf.callsOk at hk
      simp only [Bool.and_eq_true,decide_eq_true_eq] at hk
      refine ⟨by omega,by omega,r0.1,r0.2,r1.1,r1.2,r2.1,r2.2,r3.1,r3.2,r4.1,r4.2,r5.1,r5.2,hk.1,by omega,?_⟩
      rw [hbc];simpa [Sg.nums] using hc
    · cases hc
  · cases h
noncomputable def newB (b c r:Int) (l:List Sg) (self:Int):Bool:=decide (Si.chk b c r l=0)&&decide (0≤self)&&decide (self < (l.length:Int))
theorem newB_iff {b c r:Int} {l:List Sg} {self:Int}:newB b c r l self=true↔Si.chk b c r l=0∧0≤self∧self < (l.length:Int):=by
  unfold newB;simp [and_assoc]
end Go.LK.Nd
namespace Go.Proofs.YtohjlkjhpibkmaaGreatDoor
open Go Go.LK Go.Proofs.Tryz
set_option maxRecDepth 100000
set_option maxHeartbeats 4000000
def nwK (lev tiers m0 m1 m2 m3 m4 m5 m6:Int):Nd.Kt:=⟨m0,m1,m2,m3,m4,m5,m6,lev,1,0,0,tiers,32,0,0,0,List.replicate 128 0⟩
def nwA (N:Nd.Nc) (k:Nd.Kt) (s:Nd.Sn) (ws:Ws):List Sp:=var N.n (Nd.nC N 0 0 0 0) 90 :: (ctL N k++(quL N ⟨.slice none 0 0,[],[]⟩++((var N.s ([Value.int .i64 N.wk]++(List.replicate 16 none:Nd.Pl).map Nd.sP) 210) :: (seL N s++[mi N.jb Nd.jobV [],wt 195 N.w ws,var N.tb (Sh.tbC N.ttl Sh.nil) 215,row N.cv 136 4 (N.calls.map Cl.cells),row N.sv 56 14 (N.svs.map Sg.cells)]))))
theorem nw_NewRaw (b c r:Int) (kn:Nat) (sv:Value) (l:List Sg) (self:Int) (hsv:Value.oneCell' sv=true) (hl:l.length≤1000) (hc:∀ s∈l,s.cl.length≤1000) (hchk:Si.chk b c r l=0) (h0:0≤self) (h1:self < (l.length:Int)):Tri prog 23 #[.agg #[.int .i64 b,.int .i64 c,.int .i64 r,.int .u64 (Nat.cast kn:Int),sv],.int .i64 self] [rd sv 14 (l.map Sg.cells),ros (l.map Sg.rd)] [] (fun v L'=>∃ (N:Nd.Nc) (s:Nd.Sn) (ws:Ws) (e:Sg),l[self.toNat]?=some e∧Nd.NewF b c l e∧Wt.Rep [] ws∧(s.ring.length:Int)=e.x4∧s.f=0∧s.n=0∧s.m=[]∧Value.oneCell' N.sv=true∧Value.oneCell' N.cv=true∧(N.svs=l∧N.self=self∧N.lev=Si.mulC b c∧N.wk=e.x0∧N.qn=e.x1∧N.win=e.x2∧N.tiers=e.x3∧N.se=e.x4∧N.ttl=e.x5∧N.calls=e.cl∧N.bu=b∧N.cl=c∧N.ro=r∧N.key=kn)∧v=.tuple #[.pointer (some ⟨N.n,0,none⟩),.int .i64 0]∧L'=nwA N (nwK N.lev N.tiers e.x6 e.x7 e.x8 e.x9 e.x10 e.x11 e.x12) s ws):=by
 obtain ⟨e,he⟩:∃ e,l[self.toNat]?=some e:=⟨_,List.getElem?_eq_getElem (by omega)⟩
 have hf:=Nd.new_facts hchk h0 h1 he
 refine Tri.en func23 H ntmps23 H fun w0=>J.co 2 H<|O.l (Lo.bx H H) H ?_
 rintro _ _ ⟨g1,rfl,rfl⟩
 refine O.oo 6 H<|O.q (Qt.lva 0 A25 Z25 H H H) H<|O.l (Lo.ca call49 (si_Check b c r kn sv l hl hc) [] H H (.ro 0 H (.ro 1 H .nil))) H ?_
 rintro _ _ ⟨_,⟨rfl,rfl⟩,rfl⟩
 refine O.oc 7 H<|J.condF H (decide_eq_false (fun h_=>h_ hchk))<|J.co 7 H<|O.kf 15 H (decide_eq_false (by omega))<|O.oo 2 H ?_
 refine O.gz (Qt.lv 0 A23 H H H) H H<|O.gz (Qt.lenM U23 H (Src.ro 0 H)) H H<|O.oc 3 H<|J.condF H (decide_eq_false (by omega))<|J.cc 2 H ?_
 refine J.drawA Tryz.mixed ?_
 refine A.edge 7 8 H ?_ ?_
 ·
  refine A.mx [(0,false),(1,false),(2,false),(3,false),(4,false),(5,false),(6,false),(8,true),(7,true),(9,false),(10,true),(11,false)] [0] (by kernel_rfl) H<|Mx.q H (Qt.lva 0 A25 Z25 H H H) H<|Mx.r 2 H<|Mx.q H (Qt.lv 0 A23 H H H) H<|Mx.r 1 H ?_
  refine Mx.q H (Qt.ix U23 Z56 H (Src.ro 0 H) he H (by omega)) H<|Mx.q H (Qt.lea A56 Z56 (Src.ro 0 H) he 0 H (by omega) H) H<|Mx.l H (Lo.ca call50 wt_New [] H H .nil) H ?_
  rintro _ _ ⟨_,⟨g3,ws4,rfl,rfl,hr5⟩,rfl⟩
  refine MxK.gp [1] [0] H H<|Mx.l H (Lo.makeMapI Nd.jobV) H ?_
  rintro _ _ ⟨b7,rfl,rfl⟩
  refine MxK.gp [2] [0] H H<|Mx.p H (Pu.build [(1,.agg #[.int .i64 b,.int .i64 c,.int .i64 r,.int .u64 (Nat.cast kn:Int),sv]),(2,.int .i64 self),(3,.agg #[.int .i64 e.x0,.int .i64 e.x1,.int .i64 e.x2,.int .i64 e.x3,.int .i64 e.x4,.int .i64 e.x5,.int .i64 e.x6,.int .i64 e.x7,.int .i64 e.x8,.int .i64 e.x9,.int .i64 e.x10,.int .i64 e.x11,.int .i64 e.x12,e.cv]),(11,.map (some b7)),(12,.pointer (some ⟨g3,0,none⟩))] [Value.pointer none,.int .i64 b,.int .i64 c,.int .i64 r,.int .u64 (Nat.cast kn:Int),sv,.int .i64 self,.int .i64 e.x0,.int .i64 e.x1,.int .i64 e.x2,.int .i64 e.x3,.int .i64 e.x4,.int .i64 e.x5,.int .i64 e.x6,.int .i64 e.x7,.int .i64 e.x8,.int .i64 e.x9,.int .i64 e.x10,.int .i64 e.x11,.int .i64 e.x12,e.cv,.int .i64 0,.int .i64 0,.int .i64 0,.int .i64 0,Value.pointer none,Value.pointer none,Value.pointer none,.map (some b7),.pointer (some ⟨g3,0,none⟩),Value.pointer none] #[(0,1),(1,5),(6,1),(7,14),(21,1),(22,1),(23,1),(24,1),(25,1),(26,1),(27,1),(28,1),(29,1),(30,1)] U90 zeroValue90 (places90 underlying90) H (by cases e.cv<;>first|(simp [Value.oneCell'] at e.ok;done)|(cases sv<;>first|(simp [Value.oneCell'] at hsv;done)|(kernel_rfl;done);done))) H<|Mx.l H (Lo.bx H H) H ?_
  rintro _ _ ⟨g8,rfl,rfl⟩
  refine MxK.gp [3] [0] H H<|Mx.r 1 H<|Mx.nil<|J.co 3 H<|O.l (Lo.buildE Sg.cells U23 Z56) H ?_
  rintro V9 _ rfl
  refine O.oo 1 H<|O.q (Qt.lv 4 A23 H H H) H<|O.l (Lo.am 0 N23 info56 H H H H H (Src.ro 0 H) Sg.one (by first|omega|(have h1_:=hf.n8;have h2_:=hf.cl;simp only [List.length_append,List.length_nil];omega)) (by first|omega|(have h1_:=hf.n8;have h2_:=hf.cl;simp only [List.length_append,List.length_nil];omega))) H ?_
  rintro V10 _ rfl
  refine O.oo 3 H ?_
  refine O.one (Src.row 0 H) (fun hV11=>?_)
  refine O.l0 (Lo.so 1 Z23 hV11 H H H H) ?_
  rintro _ _ rfl
  refine O.oc 2 H<|J.ros 1 H (A:=rd e.cv 4 (e.cl.map Cl.cells)) (List.mem_map.2 ⟨e,List.mem_of_getElem? he,H⟩)<|J.co 2 H<|O.l (Lo.buildE Cl.cells U54 Z136) H ?_
  rintro V12 _ rfl
  refine O.oo 4 H<|O.q (Qt.lv 2 A54 H H H) H<|O.l (Lo.am 0 underlying54 info136 H H H H H (Src.ro 2 H) Cl.one (by first|omega|(have h1_:=hf.n8;have h2_:=hf.cl;simp only [List.length_append,List.length_nil];omega)) (by first|omega|(have h1_:=hf.n8;have h2_:=hf.cl;simp only [List.length_append,List.length_nil];omega))) H ?_
  rintro V13 _ rfl
  refine O.oo 3 H ?_
  refine O.one (Src.row 0 H) (fun hV14=>?_)
  refine O.l0 (Lo.so 2 sizeOf54 hV14 H H H H) ?_
  rintro _ _ rfl
  refine O.oc 2 H<|J.dm [(0,false),(1,false),(2,false),(3,false),(4,false),(5,false),(6,false),(7,false),(8,false),(9,false),(10,false),(11,false),(12,false),(13,true),(14,false),(15,false),(16,false),(17,false),(18,false),(19,true)] [2,5] Tryz.mixed (by kernel_rfl) H<|Mx.r 1 H<|Mx.q H (Qt.lva 1 A25 Z25 H H H) H<|Mx.call (vs:=[.agg #[.int .i64 b,.int .i64 c,.int .i64 r,.int .u64 (Nat.cast kn:Int),sv]]) (caps:=[]) H (by exact call52) H H (sx_Levels b c r kn sv hsv) (fun _ _ h=>h) RoOk.nil H ?_
  refine Mx.r 4 H<|Mx.q H (Qt.lv 0 A3 H H H) H<|Mx.r 4 H<|Mx.q H (Qt.lva 0 A45 Z45 H H H) H<|Mx.l H (Lo.ca call51 (co_New (Si.mulC b c) e.x3 e.x6 e.x7 e.x8 e.x9 e.x10 e.x11 e.x12 hf.bc0 hf.bc1 hf.t0 hf.t1 hf.kn) [] H H .nil) H ?_
  rintro _ _ ⟨_,⟨g15,g16,g17,g18,g19,rfl,rfl⟩,rfl⟩
  refine MxK.al [7,10] H (by kernel_rfl)<|Mx.r 5 H<|Mx.l0 H (Lo.st 7 sizeOf82 H H H H H H H) ?_
  rintro _ _ rfl
  refine MxK.al [7,10] H (by kernel_rfl)<|Mx.nil<|J.co 7 H<|O.q (Qt.lv 7 A3 H H H) H<|O.l (Lo.ca call53 (se_New e.x4 hf.s0 hf.s1) [] H H .nil) H ?_
  rintro _ _ ⟨_,⟨g21,b22,R23,ring24,rfl,hring25,rfl⟩,rfl⟩
  refine O.oo 5 H<|O.l0 (Lo.st 10 sizeOf83 H H H H H H H) ?_
  rintro _ _ rfl
  refine O.oo 8 H<|O.q (Qt.lv 10 A3 H H H) H<|O.l (Lo.ca call54 (qu_New e.x1 hf.q0 hf.q1) [] H H .nil) H ?_
  rintro _ _ ⟨_,⟨g27,g28,b29,rfl,rfl⟩,rfl⟩
  refine O.oo 5 H<|O.l0 (Lo.st 14 sizeOf84 H H H H H H H) ?_
  rintro _ _ rfl
  refine O.oo 8 H<|O.q (Qt.lv 14 A3 H H H) H<|O.l (Lo.ca call55 (sl_New e.x0 hf.w0 hf.w1) [] H H .nil) H ?_
  rintro _ _ ⟨_,⟨g31,rfl,rfl⟩,rfl⟩
  refine O.oo 5 H<|O.l0 (Lo.st 15 sizeOf85 H H H H H H H) ?_
  rintro _ _ rfl
  refine O.oo 8 H<|O.q (Qt.lv 15 A3 H H H) H<|O.l (Lo.ca call56 (tb_New e.x5 (by have h1_:=hf.l0;have h2_:=hf.l1;simp [Sh.bad];omega)) [] H H .nil) H ?_
  rintro _ _ ⟨_,⟨g33,rfl,rfl⟩,rfl⟩
  refine O.oo 5 H<|O.l0 (Lo.st 16 sizeOf88 H H H H H H H) ?_
  rintro _ _ rfl
  refine O.oc 7 H ?_
  refine J.one (Src.row 15 H) (fun hSV=>?_)
  refine J.one (Src.row 14 H) (fun hCV=>?_)
  exact J.rn [_,_] [16,9,10,11,12,13,2,3,4,5,1,6,7,8,17,18,0,14,15] H ⟨H,H,trivial⟩ H ⟨⟨g8,g15,g16,g17,g18,g19,g21,b22,g27,g28,b29,g31,b7,g3,g33,b,c,r,kn,V10,l,self,e.x0,e.x1,e.x2,e.x3,e.x4,e.x5,e.x6,e.x7,e.x8,e.x9,e.x10,e.x11,e.x12,V13,e.cl,Si.mulC b c⟩,⟨R23,0,0,ring24,[]⟩,ws4,e,he,hf,hr5,hring25,H,H,H,hSV,hCV,⟨H,H,H,H,H,H,H,H,H,H,H,H,H,H⟩,H,H⟩
 refine A.mx [(0,false),(1,false),(2,false),(3,false),(4,false),(5,false),(6,false),(7,true),(8,true),(9,false),(10,true),(11,false)] [0] (by kernel_rfl) H<|Mx.q H (Qt.lva 0 A25 Z25 H H H) H<|Mx.r 2 H<|Mx.q H (Qt.lv 0 A23 H H H) H<|Mx.r 1 H ?_
 refine Mx.q H (Qt.ix U23 Z56 H (Src.ro 0 H) he H (by omega)) H<|Mx.q H (Qt.lea A56 Z56 (Src.ro 0 H) he 0 H (by omega) H) H<|Mx.l H (Lo.makeMapI Nd.jobV) H ?_
 rintro _ _ ⟨b35,rfl,rfl⟩
 refine MxK.gp [1] [0] H H<|Mx.l H (Lo.ca call50 wt_New [] H H .nil) H ?_
 rintro _ _ ⟨_,⟨g36,ws37,rfl,rfl,hr38⟩,rfl⟩
 refine MxK.gp [2] [0] H H<|Mx.p H (Pu.build [(1,.agg #[.int .i64 b,.int .i64 c,.int .i64 r,.int .u64 (Nat.cast kn:Int),sv]),(2,.int .i64 self),(3,.agg #[.int .i64 e.x0,.int .i64 e.x1,.int .i64 e.x2,.int .i64 e.x3,.int .i64 e.x4,.int .i64 e.x5,.int .i64 e.x6,.int .i64 e.x7,.int .i64 e.x8,.int .i64 e.x9,.int .i64 e.x10,.int .i64 e.x11,.int .i64 e.x12,e.cv]),(11,.map (some b35)),(12,.pointer (some ⟨g36,0,none⟩))] [Value.pointer none,.int .i64 b,.int .i64 c,.int .i64 r,.int .u64 (Nat.cast kn:Int),sv,.int .i64 self,.int .i64 e.x0,.int .i64 e.x1,.int .i64 e.x2,.int .i64 e.x3,.int .i64 e.x4,.int .i64 e.x5,.int .i64 e.x6,.int .i64 e.x7,.int .i64 e.x8,.int .i64 e.x9,.int .i64 e.x10,.int .i64 e.x11,.int .i64 e.x12,e.cv,.int .i64 0,.int .i64 0,.int .i64 0,.int .i64 0,Value.pointer none,Value.pointer none,Value.pointer none,.map (some b35),.pointer (some ⟨g36,0,none⟩),Value.pointer none] #[(0,1),(1,5),(6,1),(7,14),(21,1),(22,1),(23,1),(24,1),(25,1),(26,1),(27,1),(28,1),(29,1),(30,1)] U90 zeroValue90 (places90 underlying90) H (by cases e.cv<;>first|(simp [Value.oneCell'] at e.ok;done)|(cases sv<;>first|(simp [Value.oneCell'] at hsv;done)|(kernel_rfl;done);done))) H<|Mx.l H (Lo.bx H H) H ?_
 rintro _ _ ⟨g40,rfl,rfl⟩
 refine MxK.gp [3] [0] H H<|Mx.r 1 H<|Mx.nil<|J.co 3 H<|O.l (Lo.buildE Sg.cells U23 Z56) H ?_
 rintro V41 _ rfl
 refine O.oo 1 H<|O.q (Qt.lv 4 A23 H H H) H<|O.l (Lo.am 0 N23 info56 H H H H H (Src.ro 0 H) Sg.one (by first|omega|(have h1_:=hf.n8;have h2_:=hf.cl;simp only [List.length_append,List.length_nil];omega)) (by first|omega|(have h1_:=hf.n8;have h2_:=hf.cl;simp only [List.length_append,List.length_nil];omega))) H ?_
 rintro V42 _ rfl
 refine O.oo 3 H ?_
 refine O.one (Src.row 0 H) (fun hV43=>?_)
 refine O.l0 (Lo.so 1 Z23 hV43 H H H H) ?_
 rintro _ _ rfl
 refine O.oc 2 H<|J.ros 1 H (A:=rd e.cv 4 (e.cl.map Cl.cells)) (List.mem_map.2 ⟨e,List.mem_of_getElem? he,H⟩)<|J.co 2 H<|O.l (Lo.buildE Cl.cells U54 Z136) H ?_
 rintro V44 _ rfl
 refine O.oo 4 H<|O.q (Qt.lv 2 A54 H H H) H<|O.l (Lo.am 0 underlying54 info136 H H H H H (Src.ro 2 H) Cl.one (by first|omega|(have h1_:=hf.n8;have h2_:=hf.cl;simp only [List.length_append,List.length_nil];omega)) (by first|omega|(have h1_:=hf.n8;have h2_:=hf.cl;simp only [List.length_append,List.length_nil];omega))) H ?_
 rintro V45 _ rfl
 refine O.oo 3 H ?_
 refine O.one (Src.row 0 H) (fun hV46=>?_)
 refine O.l0 (Lo.so 2 sizeOf54 hV46 H H H H) ?_
 rintro _ _ rfl
 refine O.oc 2 H<|J.dm [(0,false),(1,false),(2,false),(3,false),(4,false),(5,false),(6,false),(7,false),(8,false),(9,false),(10,false),(11,false),(12,false),(13,true),(14,false),(15,false),(16,false),(17,false),(18,false),(19,true)] [2,5] Tryz.mixed (by kernel_rfl) H<|Mx.r 1 H<|Mx.q H (Qt.lva 1 A25 Z25 H H H) H<|Mx.call (vs:=[.agg #[.int .i64 b,.int .i64 c,.int .i64 r,.int .u64 (Nat.cast kn:Int),sv]]) (caps:=[]) H (by exact call52) H H (sx_Levels b c r kn sv hsv) (fun _ _ h=>h) RoOk.nil H ?_
 refine Mx.r 4 H<|Mx.q H (Qt.lv 0 A3 H H H) H<|Mx.r 4 H<|Mx.q H (Qt.lva 0 A45 Z45 H H H) H<|Mx.l H (Lo.ca call51 (co_New (Si.mulC b c) e.x3 e.x6 e.x7 e.x8 e.x9 e.x10 e.x11 e.x12 hf.bc0 hf.bc1 hf.t0 hf.t1 hf.kn) [] H H .nil) H ?_
 rintro _ _ ⟨_,⟨g47,g48,g49,g50,g51,rfl,rfl⟩,rfl⟩
 refine MxK.al [7,10] H (by kernel_rfl)<|Mx.r 5 H<|Mx.l0 H (Lo.st 7 sizeOf82 H H H H H H H) ?_
 rintro _ _ rfl
 refine MxK.al [7,10] H (by kernel_rfl)<|Mx.nil<|J.co 7 H<|O.q (Qt.lv 7 A3 H H H) H<|O.l (Lo.ca call53 (se_New e.x4 hf.s0 hf.s1) [] H H .nil) H ?_
 rintro _ _ ⟨_,⟨g53,b54,R55,ring56,rfl,hring57,rfl⟩,rfl⟩
 refine O.oo 5 H<|O.l0 (Lo.st 10 sizeOf83 H H H H H H H) ?_
 rintro _ _ rfl
 refine O.oo 8 H<|O.q (Qt.lv 10 A3 H H H) H<|O.l (Lo.ca call54 (qu_New e.x1 hf.q0 hf.q1) [] H H .nil) H ?_
 rintro _ _ ⟨_,⟨g59,g60,b61,rfl,rfl⟩,rfl⟩
 refine O.oo 5 H<|O.l0 (Lo.st 14 sizeOf84 H H H H H H H) ?_
 rintro _ _ rfl
 refine O.oo 8 H<|O.q (Qt.lv 14 A3 H H H) H<|O.l (Lo.ca call55 (sl_New e.x0 hf.w0 hf.w1) [] H H .nil) H ?_
 rintro _ _ ⟨_,⟨g63,rfl,rfl⟩,rfl⟩
 refine O.oo 5 H<|O.l0 (Lo.st 15 sizeOf85 H H H H H H H) ?_
 rintro _ _ rfl
 refine O.oo 8 H<|O.q (Qt.lv 15 A3 H H H) H<|O.l (Lo.ca call56 (tb_New e.x5 (by have h1_:=hf.l0;have h2_:=hf.l1;simp [Sh.bad];omega)) [] H H .nil) H ?_
 rintro _ _ ⟨_,⟨g65,rfl,rfl⟩,rfl⟩
 refine O.oo 5 H<|O.l0 (Lo.st 16 sizeOf88 H H H H H H H) ?_
 rintro _ _ rfl
 refine O.oc 7 H ?_
 refine J.one (Src.row 15 H) (fun hSV=>?_)
 refine J.one (Src.row 14 H) (fun hCV=>?_)
 exact J.rn [_,_] [16,9,10,11,12,13,2,3,4,5,1,6,7,8,18,17,0,14,15] H ⟨H,H,trivial⟩ H ⟨⟨g40,g47,g48,g49,g50,g51,g53,b54,g59,g60,b61,g63,b35,g36,g65,b,c,r,kn,V42,l,self,e.x0,e.x1,e.x2,e.x3,e.x4,e.x5,e.x6,e.x7,e.x8,e.x9,e.x10,e.x11,e.x12,V45,e.cl,Si.mulC b c⟩,⟨R55,0,0,ring56,[]⟩,ws37,e,he,hf,hr38,hring57,H,H,H,hSV,hCV,⟨H,H,H,H,H,H,H,H,H,H,H,H,H,H⟩,H,H⟩
theorem nw_New (b c r:Int) (kn:Nat) (sv:Value) (l:List Sg) (self:Int) (hsv:Value.oneCell' sv=true) (hl:l.length≤1000) (hc:∀ s∈l,s.cl.length≤1000) (hnb:Nd.newB b c r l self=true):Tri prog 23 #[.agg #[.int .i64 b,.int .i64 c,.int .i64 r,.int .u64 (Nat.cast kn:Int),sv],.int .i64 self] [rd sv 14 (l.map Sg.cells),ros (l.map Sg.rd)] [] (fun v L'=>∃ N Z e,l[self.toNat]?=some e∧N.Ok∧Z.Ok N∧Nd.Init N Z b c self e∧N.svs=l∧v=.tuple #[.pointer (some ⟨N.n,0,none⟩),.int .i64 0]∧L'=ndA N Z):=by
 obtain ⟨hchk,h0,h1⟩:=Nd.newB_iff.1 hnb
 refine (nw_NewRaw b c r kn sv l self hsv hl hc hchk h0 h1).conv (Re.refl _) ?_
 rintro v L' ⟨N,s,ws,e,he,hf,hr,hrl,hsf,hsn,hsm,hSV,hCV,⟨f1,f2,f3,f4,f5,f6,f7,f8,f9,f10,f11,f12,f13,f14⟩,rfl,rfl⟩
 have hN:N.Ok:=⟨by rw [f3];exact hf.bc0,by rw [f3];exact hf.bc1,by rw [f7];exact hf.t0,by rw [f7];exact hf.t1,by rw [f4];exact hf.w0,by rw [f4];exact hf.w1,by rw [f5];exact hf.q0,by rw [f5];exact hf.q1,by rw [f6];exact hf.i0,by rw [f6];exact hf.i1,by rw [f8];exact hf.s0,by rw [f8];exact hf.s1,by rw [f2];exact h0,by rw [f2,f1];exact h1,by rw [f1];exact hf.n8,by rw [f10];exact hf.cl,hSV,hCV,by rw [f3,f11,f12]⟩
 have hZ:((⟨0,0,0,0,(nwK N.lev N.tiers e.x6 e.x7 e.x8 e.x9 e.x10 e.x11 e.x12),s,⟨.slice none 0 0,[],[]⟩,List.replicate 16 none,[],ws,[],Sh.nil⟩:Nd.Sx)).Ok N:=⟨⟨List.length_replicate,(by have:=hN.hv0;show 0≤N.lev;omega),Int.le_refl _,(show (0:Int)≤1 from by decide),(show (1:Int)≤4294967295 from by decide),(show (-1:Int)≤0 from by decide),(show (0:Int)≤1 from by decide),hN.ht0,Int.le_refl _⟩,⟨(by have:=hf.s1;show s.ring.length≤256;omega),(by show 0≤s.f;omega),(by have:=hf.s0;show s.f < s.ring.length∨s.ring.length=0∧s.f=0;omega),(by show 0≤s.n;omega),(by show s.n≤s.ring.length;omega)⟩,⟨Nd.AtOk.nil,(by have:=hN.hq0;show ((([]:List Im).length:Nat):Int)≤N.qn;simp;omega)⟩,Nd.In.zero hr,(by show ((([]:List Im)++Nd.its (List.replicate 16 none)).map Im.id).Nodup;rw [Nd.its_new];simp),Int.le_refl 0,(show (0:Int)≤1099511627776 from by decide),Int.le_refl 0,Int.le_refl 0⟩
 refine ⟨_,⟨N,(⟨0,0,0,0,(nwK N.lev N.tiers e.x6 e.x7 e.x8 e.x9 e.x10 e.x11 e.x12),s,⟨.slice none 0 0,[],[]⟩,List.replicate 16 none,[],ws,[],Sh.nil⟩:Nd.Sx),e,he,hN,hZ,⟨f2,f3,f4,f5,f7,f10,rfl,rfl,rfl,rfl,rfl,rfl,rfl,rfl,rfl,Nd.its_new,rfl,hsm,hsn,rfl,rfl⟩,f1,rfl,rfl⟩,?_⟩
 refine Re.trans Re.new (Re.trans Re.new (Re.trans (Re.sn [3,4,5,6,7,0,1,2,8,9,10,11,12,13,14,15,16,17,18,19,20] rfl) (Re.trans (Re.bunIn (As:=ctL N (nwK N.lev N.tiers e.x6 e.x7 e.x8 e.x9 e.x10 e.x11 e.x12))) ?_)))
 refine Re.trans (Re.sn [4,5,6,7,0,1,2,3,8,9,10,11,12,13,14,15,16] rfl) (Re.trans (Re.bunIn (As:=quL N ⟨.slice none 0 0,[],[]⟩)) ?_)
 refine Re.trans (Re.sn [5,2,0,1,3,4,6,7,8,9,10,11,12,13] rfl) (Re.trans (Re.bunIn (As:=slL N (List.replicate 16 none))) ?_)
 refine Re.trans (Re.sn [5,6,7,0,1,2,3,4,8,9,10,11,12] rfl) (Re.trans (Re.bunIn (As:=seL N s)) ?_)
 exact Re.sn [5,3,2,1,6,4,7,0,8,9,10] rfl
theorem nw_NewNo (b c r:Int) (kn:Nat) (sv:Value) (l:List Sg) (self:Int) (hsv:Value.oneCell' sv=true) (hl:l.length≤1000) (hc:∀ s∈l,s.cl.length≤1000) (hnb:Nd.newB b c r l self=false):Tri prog 23 #[.agg #[.int .i64 b,.int .i64 c,.int .i64 r,.int .u64 (Nat.cast kn:Int),sv],.int .i64 self] [rd sv 14 (l.map Sg.cells),ros (l.map Sg.rd)] [] (fun v L'=>∃ e:Int,v=.tuple #[.pointer none,.int .i64 e]∧L'=[]):=by
 refine Tri.en func23 H ntmps23 H fun w0=>J.co 2 H<|O.l (Lo.bx H H) H ?_
 rintro _ _ ⟨g1,rfl,rfl⟩
 refine O.oo 6 H<|O.q (Qt.lva 0 A25 Z25 H H H) H<|O.l (Lo.ca call49 (si_Check b c r kn sv l hl hc) [] H H (.ro 0 H (.ro 1 H .nil))) H ?_
 rintro _ _ ⟨_,⟨rfl,rfl⟩,rfl⟩
 refine O.oc 7 H ?_
 refine J.cd H (fun p3=>?_) (fun p3=>?_)
 ·
  refine J.cc 6 H ?_
  exact J.rn [_,_] [] H ⟨H,H,trivial⟩ H ⟨_,H,H⟩
 refine J.co 7 H ?_
 refine O.sd 15 H (fun p4=>?_) (fun p4=>?_)
 ·
  refine O.oc 13 H ?_
  exact J.rn [_,_] [] H ⟨H,H,trivial⟩ H ⟨_,H,H⟩
 refine O.oo 2 H<|O.gz (Qt.lv 0 A23 H H H) H H<|O.gz (Qt.lenM U23 H (Src.ro 0 H)) H H<|O.oc 3 H ?_
 refine J.cd H (fun p5=>?_) (fun p5=>?_)
 ·
  refine J.cc 5 H ?_
  exact J.rn [_,_] [] H ⟨H,H,trivial⟩ H ⟨_,H,H⟩
 exact absurd ((Nd.newB_iff (b:=b) (c:=c) (r:=r) (l:=l) (self:=self)).2 ⟨Decidable.not_not.1 p3,(by have h_:=of_decide_eq_false (decide_eq_false p4);omega),(by have h_:=of_decide_eq_false (decide_eq_false p5);omega)⟩) (by rw [hnb];decide)
theorem l35_begin (b c r:Int) (kn:Nat) (sv:Value) (l:List Sg) (self:Int) (hsv:Value.oneCell' sv=true) (hl:l.length≤1000) (hc:∀ s∈l,s.cl.length≤1000) (hnb:Nd.newB b c r l self=true):Tri prog 11 #[.agg #[.int .i64 b,.int .i64 c,.int .i64 r,.int .u64 (Nat.cast kn:Int),sv],.int .i64 self] [rd sv 14 (l.map Sg.cells),ros (l.map Sg.rd)] [] (fun v L'=>∃ N Z e,l[self.toNat]?=some e∧N.Ok∧Z.Ok N∧Nd.Init N Z b c self e∧N.svs=l∧v=.tuple #[.pointer (some ⟨N.n,0,none⟩),.bool true]∧L'=ndA N Z):=by
 refine Tri.en func11 H ntmps11 H fun w0=>J.co 2 H<|O.l (Lo.bx H H) H ?_
 rintro _ _ ⟨g1,rfl,rfl⟩
 refine O.oo 5 H<|O.q (Qt.lva 0 A25 Z25 H H H) H<|O.oo 1 H<|O.l (Lo.ca call23 (nw_New b c r kn sv l self hsv hl hc hnb) [] H H (.ro 0 H (.ro 1 H .nil))) H ?_
 rintro _ _ ⟨_,⟨N,Z0,e,he,hN,hZ0,hini,hsvs,rfl,rfl⟩,rfl⟩
 refine O.oo 13 H<|O.gz (Pu.qt (Pu.ptrNe N29 H)) H H<|O.oc 4 H ?_
 exact J.rn [_,_] [0,1,2,3,4,5,6,7,8,9,10] H ⟨H,H,trivial⟩ H ⟨N,Z0,e,he,hN,hZ0,hini,hsvs,H,H⟩
theorem l35_beginNo (b c r:Int) (kn:Nat) (sv:Value) (l:List Sg) (self:Int) (hsv:Value.oneCell' sv=true) (hl:l.length≤1000) (hc:∀ s∈l,s.cl.length≤1000) (hnb:Nd.newB b c r l self=false):Tri prog 11 #[.agg #[.int .i64 b,.int .i64 c,.int .i64 r,.int .u64 (Nat.cast kn:Int),sv],.int .i64 self] [rd sv 14 (l.map Sg.cells),ros (l.map Sg.rd)] [] (fun v L'=>v=.tuple #[.pointer none,.bool false]∧L'=[]):=by
 refine Tri.en func11 H ntmps11 H fun w0=>J.co 2 H<|O.l (Lo.bx H H) H ?_
 rintro _ _ ⟨g1,rfl,rfl⟩
 refine O.oo 5 H<|O.q (Qt.lva 0 A25 Z25 H H H) H<|O.oo 1 H<|O.l (Lo.ca call23 (nw_NewNo b c r kn sv l self hsv hl hc hnb) [] H H (.ro 0 H (.ro 1 H .nil))) H ?_
 rintro _ _ ⟨_,⟨e2,rfl,rfl⟩,rfl⟩
 refine O.oo 12 H ?_
 refine O.sd 17 H (fun p4=>?_) (fun p4=>?_)
 ·
  refine O.oo 1 H<|O.gz (Pu.qt (Pu.ptrNeNil N29 H)) H H<|O.oc 4 H ?_
  exact J.rn [_,_] [] H ⟨H,H,trivial⟩ H ⟨H,H⟩
 refine O.oc 6 H ?_
 exact J.rn [_,_] [] H ⟨H,H,trivial⟩ H ⟨H,H⟩
theorem l35_few (b c r:Int) (kn:Nat) (sv:Value) (l:List Sg) (av:Value) (acts:List Ad):Tri prog 9 #[.agg #[.int .i64 b,.int .i64 c,.int .i64 r,.int .u64 (Nat.cast kn:Int),sv],av] [rd sv 14 (l.map Sg.cells),ros (l.map Sg.rd),rd av 24 (acts.map Ad.cells)] [] (fun v L'=>∃ q,v=.bool q∧(q=true→Si.fewP l∧acts.length≤150)∧L'=[]):=by
 refine Tri.en func9 H ntmps9 H fun w0=>J.co 2 H ?_
 refine O.one (Src.ro 0 H) (fun hV2=>?_)
 refine O.l (Lo.bx H H) H ?_
 rintro _ _ ⟨g1,rfl,rfl⟩
 refine O.oc 8 H ?_
 refine J.lo (X:=Nat) (fun k=>k≤l.length∧∀ (i:Nat) (s:Sg),i < k→l[i]?=some s→s.cl.length≤10) (fun k=>[(5,.int .i64 (k:Int))]) (fun k=>[]) (fun k=>l.length-k) 0 [1,2] [] [0] ⟨by omega,fun i s h=>absurd h (Nat.not_lt_zero i)⟩ ⟨(eqi (by omega)),trivial⟩ H H ?_
 rintro k ⟨hk,hno⟩
 refine J.co 5 H<|O.q (Qt.lv 0 A23 H H H) H<|O.q (Qt.lenM U23 H (Src.ro 0 H)) H<|O.oo 2 H ?_
 refine O.sd 11 H (fun p3=>?_) (fun p3=>?_)
 ·
  refine O.oc 4 H ?_
  refine J.cd H (fun p4=>?_) (fun p4=>?_)
  ·
   refine J.cc 4 H ?_
   obtain ⟨e5,he5⟩:=ex_at (l:=l) (i:=k) (by omega)
   refine J.ros 1 H (A:=rd e5.cv 4 (e5.cl.map Cl.cells)) (List.mem_map.2 ⟨e5,List.mem_of_getElem? he5,H⟩)<|J.co 2 H<|O.q (Qt.lv 0 A23 H H H) H<|O.oo 1 H<|O.q (Qt.ix U23 Z56 H (Src.ro 0 H) he5 H (by rfl)) H ?_
   refine O.oo 1 H<|O.q (Qt.le A54 (Src.ro 0 H) he5 13 H (by omega) H) H<|O.q (Qt.lenM U54 H (Src.ro 3 H)) H<|O.oc 2 H ?_
   refine J.cd H (fun p6=>?_) (fun p6=>?_)
   ·
    refine J.cc 4 H ?_
    exact J.r0 H H ⟨_,H,(fun h_=>by cases h_),H⟩
   refine J.co 4 H<|O.p (Pu.add' H H (by omega)) H<|O.oc 2 H ?_
   exact J.lq (k+1) [1,2] [] [0] ⟨by omega,Si.few_next hno he5 (by omega)⟩ (by omega) ⟨(eqi (by omega)),trivial⟩ H H
  refine J.co 4 H<|O.q (Qt.lv 0 A23 H H H) H<|O.q (Qt.lenM U23 H (Src.ro 0 H)) H<|O.oo 2 H ?_
  refine O.sd 29 H (fun p7=>?_) (fun p7=>?_)
  ·
   refine O.oo 1 H<|O.gz (Qt.lenM U26 H (Src.ro 2 H)) H H<|O.oc 4 H ?_
   exact J.r0 H H ⟨_,H,(fun h_=>⟨Si.few_all hno (by omega) (by first|omega|(cases h_;done)|(simp at h_;omega)),(by first|omega|(cases h_;done)|(simp at h_;omega))⟩),H⟩
  refine O.oc 6 H ?_
  exact J.r0 H H ⟨_,H,(fun h_=>by cases h_),H⟩
 refine O.oo 9 H<|O.q (Qt.lv 0 A23 H H H) H<|O.q (Qt.lenM U23 H (Src.ro 0 H)) H<|O.oo 2 H ?_
 refine O.sd 29 H (fun p8=>?_) (fun p8=>?_)
 ·
  refine O.oo 1 H<|O.gz (Qt.lenM U26 H (Src.ro 2 H)) H H<|O.oc 4 H ?_
  exact J.r0 H H ⟨_,H,(fun h_=>⟨Si.few_all hno (by omega) (by first|omega|(cases h_;done)|(simp at h_;omega)),(by first|omega|(cases h_;done)|(simp at h_;omega))⟩),H⟩
 refine O.oc 6 H ?_
 exact J.r0 H H ⟨_,H,(fun h_=>by cases h_),H⟩
theorem l35_has (lv:Value) (l:List Int) (x:Int) (hl:l.length≤100000):Tri prog 15 #[lv,.int .i64 x] [rd lv 1 (l.map encZ)] [] (fun v L'=>v=.bool (decide (x∈l))∧L'=[]):=by
 refine Tri.en func15 H ntmps15 H fun w0=>J.cc 10 H ?_
 refine J.lo (X:=Nat) (fun k=>k≤l.length∧x∉l.take k) (fun k=>[(5,.int .i64 (k:Int))]) (fun k=>[]) (fun k=>l.length-k) 0 [0,1] [] [] ⟨by omega,by simp⟩ ⟨(eqi (by omega)),trivial⟩ H H ?_
 rintro k ⟨hk,hno⟩
 refine J.co 5 H<|O.q (Qt.lenM U60 H (Src.ro 0 H)) H<|O.oc 2 H ?_
 refine J.cd H (fun p1=>?_) (fun p1=>?_)
 ·
  refine J.co 7 H ?_
  obtain ⟨e2,he2⟩:=ex_at (l:=l) (i:=k) (by omega)
  refine O.q (Qt.ix U60 Z3 H (Src.ro 0 H) he2 H (by rfl)) H<|O.q (Qt.le A3 (Src.ro 0 H) he2 0 H (by omega) H) H<|O.oc 3 H ?_
  refine J.cd H (fun p3=>?_) (fun p3=>?_)
  ·
   refine J.cc 4 H ?_
   exact J.r0 H H ⟨(by simp only [vOf];rw [decide_eq_true (Jb.has_hit he2 (by omega))]),H⟩
  refine J.co 4 H<|O.p (Pu.add' H H (by omega)) H<|O.oc 2 H ?_
  exact J.lq (k+1) [0,1] [] [] ⟨by omega,Jb.has_next hno he2 (by omega)⟩ (by omega) ⟨(eqi (by omega)),trivial⟩ H H
 refine J.cc 5 H ?_
 exact J.r0 H H ⟨(by simp only [vOf];rw [decide_eq_false (Jb.has_miss hno (by omega))]),H⟩
theorem l35_without (lv:Value) (l:List Int) (x:Int) (hl:l.length≤100000):Tri prog 16 #[lv,.int .i64 x] [rd lv 1 (l.map encZ)] [] (fun v L'=>L'=[row v 3 1 ((Jb.without l x).map encZ)]):=by
 refine Tri.en func16 H ntmps16 H fun w0=>J.cc 10 H<|J.nr 3 1 (([]:List Int).map encZ) H<|J.cc 4 H ?_
 refine J.lo (X:=Nat×Value×List Int) (fun (k,V,o)=>k≤l.length∧o=Jb.without (l.take k) x∧o.length≤k) (fun (k,V,o)=>[(5,V),(6,.int .i64 (k:Int))]) (fun (k,V,o)=>[row V 3 1 (o.map encZ)]) (fun (k,V,o)=>l.length-k) ⟨0,Value.slice none 0 0,[]⟩ [0,1,4] [0] [] ⟨by omega,by simp [Jb.without],by simp⟩ ⟨H,(eqi (by omega)),trivial⟩ H H ?_
 rintro ⟨k,V,o⟩ ⟨hk,hst,hol⟩
 refine J.co 5 H<|O.q (Qt.lenM U60 H (Src.ro 0 H)) H<|O.oc 2 H ?_
 refine J.cd H (fun p1=>?_) (fun p1=>?_)
 ·
  refine J.co 7 H ?_
  obtain ⟨e2,he2⟩:=ex_at (l:=l) (i:=k) (by omega)
  refine O.q (Qt.ix U60 Z3 H (Src.ro 0 H) he2 H (by rfl)) H<|O.q (Qt.le A3 (Src.ro 0 H) he2 0 H (by omega) H) H<|O.oc 3 H ?_
  refine J.cd H (fun p3=>?_) (fun p3=>?_)
  ·
   refine J.co 4 H<|O.q (Qt.ix U60 Z3 H (Src.ro 0 H) he2 H (by rfl)) H<|O.q (Qt.le A3 (Src.ro 0 H) he2 0 H (by omega) H) H<|O.l (Lo.bm encZ [e2] U60 Z3 Y3 H H H (by kernel_rfl) H H) H ?_
   rintro V4 _ rfl
   refine O.l (Lo.am 1 N60 info3 H H H H H (Src.row 0 H) encZ.one (by first|omega|(simp only [List.length_append,List.length_cons,List.length_nil];omega)) (by first|omega|(simp only [List.length_append,List.length_cons,List.length_nil];omega))) H ?_
   rintro V5 _ rfl
   refine O.oo 5 H<|O.p (Pu.add' H H (by omega)) H<|O.oc 2 H ?_
   exact J.lq ⟨k+1,V5,o++([e2])⟩ [0,1,4] [1] [] ⟨by omega,(by rw [hst];exact (Jb.without_next1 he2 (by omega)).symm),by first|omega|(simp only [List.length_append,List.length_cons,List.length_nil];omega)⟩ (by dsimp only;omega) ⟨H,(eqi (by omega)),trivial⟩ H H
  refine J.co 4 H<|O.p (Pu.add' H H (by omega)) H<|O.oc 2 H ?_
  exact J.lq ⟨k+1,V,o⟩ [0,1,4] [0] [] ⟨by omega,(by rw [hst];exact (Jb.without_next0 he2 (by omega)).symm),by first|omega|(simp only [List.length_append,List.length_cons,List.length_nil];omega)⟩ (by dsimp only;omega) ⟨H,(eqi (by omega)),trivial⟩ H H
 refine J.cc 6 H ?_
 exact J.r1 [0] H H H (congrArg (fun (z:List Int)=>([row V 3 1 (z.map encZ)]:List Sp)) (show o=Jb.without l x from (by rw [hst,List.take_of_length_le (by omega)])))
theorem r18_Of (lv:Value) (l:List Int) (h7:l.length=7):Tri prog 75 #[lv] [rd lv 1 (l.map encZ)] [] (fun v L'=>v=.agg (l.map vI).toArray∧L'=[]):=by
 refine Tri.en func75 H ntmps75 H fun w0=>J.co 2 H<|O.l (Lo.al zeroValue45 H) H ?_
 rintro _ _ ⟨g1,rfl,rfl⟩
 refine O.oc 2 H<|J.drawTail 22 Tryz.mixed (by kernel_rfl)<|S.r 1 H ?_
 obtain ⟨e2,he2⟩:=ex_at (l:=l) (i:=0) (by omega)
 refine S.q (Qt.ix U60 Z3 H (Src.ro 0 H) he2 H (by rfl)) H<|S.q (Qt.le A3 (Src.ro 0 H) he2 0 H (by omega) H) H<|S.r 1 H ?_
 obtain ⟨e3,he3⟩:=ex_at (l:=l) (i:=1) (by omega)
 refine S.q (Qt.ix U60 Z3 H (Src.ro 0 H) he3 H (by rfl)) H<|S.q (Qt.le A3 (Src.ro 0 H) he3 0 H (by omega) H) H<|S.r 1 H ?_
 obtain ⟨e4,he4⟩:=ex_at (l:=l) (i:=2) (by omega)
 refine S.q (Qt.ix U60 Z3 H (Src.ro 0 H) he4 H (by rfl)) H<|S.q (Qt.le A3 (Src.ro 0 H) he4 0 H (by omega) H) H<|S.r 1 H ?_
 obtain ⟨e5,he5⟩:=ex_at (l:=l) (i:=3) (by omega)
 refine S.q (Qt.ix U60 Z3 H (Src.ro 0 H) he5 H (by rfl)) H<|S.q (Qt.le A3 (Src.ro 0 H) he5 0 H (by omega) H) H<|S.r 1 H ?_
 obtain ⟨e6,he6⟩:=ex_at (l:=l) (i:=4) (by omega)
 refine S.q (Qt.ix U60 Z3 H (Src.ro 0 H) he6 H (by rfl)) H<|S.q (Qt.le A3 (Src.ro 0 H) he6 0 H (by omega) H) H<|S.r 1 H ?_
 obtain ⟨e7,he7⟩:=ex_at (l:=l) (i:=5) (by omega)
 refine S.q (Qt.ix U60 Z3 H (Src.ro 0 H) he7 H (by rfl)) H<|S.q (Qt.le A3 (Src.ro 0 H) he7 0 H (by omega) H) H<|S.r 1 H ?_
 obtain ⟨e8,he8⟩:=ex_at (l:=l) (i:=6) (by omega)
 refine S.q (Qt.ix U60 Z3 H (Src.ro 0 H) he8 H (by rfl)) H<|S.q (Qt.le A3 (Src.ro 0 H) he8 0 H (by omega) H) H<|S.p (Pu.build [(0,.int .i64 e2),(1,.int .i64 e3),(2,.int .i64 e4),(3,.int .i64 e5),(4,.int .i64 e6),(5,.int .i64 e7),(6,.int .i64 e8)] [.int .i64 e2,.int .i64 e3,.int .i64 e4,.int .i64 e5,.int .i64 e6,.int .i64 e7,.int .i64 e8] #[(0,1),(1,1),(2,1),(3,1),(4,1),(5,1),(6,1)] runUnderlying45 zeroValue45 (places45 underlying45) H (by kernel_rfl)) H<|S.endO<|O.l0 (Lo.st 0 Z45 H H H H H H H) ?_
 rintro _ _ rfl
 refine O.nil ?_
 exact J.rn [_] [] H ⟨⟨_,_,0,0,_,H,(Cel.var 0 H),H,(Cut.agg [.int .i64 e2,.int .i64 e3,.int .i64 e4,.int .i64 e5,.int .i64 e6,.int .i64 e7,.int .i64 e8] A45 Z45 H H)⟩,trivial⟩ H ⟨(by rw [Kn.list7 h7 he2 he3 he4 he5 he6 he7 he8];rfl),H⟩
theorem r18_Of_us (lv:Value):Tri prog 75 #[lv] [rd lv 1 (([1,4,10,5,1,3,2]:List Int).map encZ)] [] (fun v L'=>v=.agg #[.int .i64 1,.int .i64 4,.int .i64 10,.int .i64 5,.int .i64 1,.int .i64 3,.int .i64 2]∧L'=[]):=r18_Of lv [1,4,10,5,1,3,2] rfl
theorem r30_Usual (n:Nat) (h8:n≤8):Tri prog 31 #[.int .i64 (n:Int)] [] [] (fun v L'=>∃ (V:Value) (l:List Sg),v=.agg #[.int .i64 2,.int .i64 4,.int .i64 1000,.int .u64 1,V]∧Si.dat l=Si.usK n n∧L'=[row V 56 14 (l.map Sg.cells),bun (l.map (Sg.row 136))]):=by
 refine Tri.en func31 H ntmps31 H fun w0=>J.co 2 H<|O.l (Lo.al Y25 H) H ?_
 rintro _ _ ⟨g1,rfl,rfl⟩
 refine O.oo 3 H<|O.p (Pu.build [(0,.int .i64 2),(1,.int .i64 4),(2,.int .i64 1000),(3,.int .u64 1)] [.int .i64 2,.int .i64 4,.int .i64 1000,.int .u64 1,Value.slice none 0 0] #[(0,1),(1,1),(2,1),(3,1),(4,1)] runUnderlying25 Y25 (places25 underlying25) H (by kernel_rfl)) H<|O.l (Lo.al Y25 H) H ?_
 rintro _ _ ⟨g2,rfl,rfl⟩
 refine O.l0 (Lo.st 0 Z25 H H H H H H H) ?_
 rintro _ _ rfl
 refine O.oc 3 H<|J.nb (([]:List Sg).map (Sg.row 136)) H<|J.cc 4 H<|J.nilRow 56 14 ?_
 refine J.lo (X:=Nat×Value×List Sg) (fun (k,V,l)=>k≤n∧Si.dat l=Si.usK n k∧l.length=k) (fun (k,V,l)=>[(4,.int .i64 (k:Int))]) (fun (k,V,l)=>[bun (l.map (Sg.row 136)),var g2 [.int .i64 2,.int .i64 4,.int .i64 1000,.int .u64 1,V] 25,row V 56 14 (l.map Sg.cells)]) (fun (k,V,l)=>n-k) ⟨0,Value.slice none 0 0,([]:List Sg)⟩ [0,2,3] [1,2,0] [3] ⟨by omega,rfl,rfl⟩ ⟨(eqi (by omega)),trivial⟩ H H ?_
 rintro ⟨k,V,l⟩ ⟨hk,hd,hlk⟩
 refine J.cc 7 H ?_
 refine J.cd H (fun p3=>?_) (fun p3=>?_)
 ·
  refine J.co 5 H<|O.l (Lo.bm encZ [1,4,10,5,1,3,2] U60 Z3 Y3 H H H (by kernel_rfl) H H) H ?_
  rintro V4 _ rfl
  refine O.l (Lo.ca call75 (r18_Of_us V4) [] H H (.of 0 row_rd H H .nil)) H ?_
  rintro _ _ ⟨_,⟨rfl,rfl⟩,rfl⟩
  refine O.p (Pu.build [(0,.int .i64 1),(1,.int .i64 4),(2,.int .i64 10),(3,.int .i64 1),(4,.int .i64 64),(5,.int .i64 20),(6,.agg #[.int .i64 1,.int .i64 4,.int .i64 10,.int .i64 5,.int .i64 1,.int .i64 3,.int .i64 2])] [.int .i64 1,.int .i64 4,.int .i64 10,.int .i64 1,.int .i64 64,.int .i64 20,.int .i64 1,.int .i64 4,.int .i64 10,.int .i64 5,.int .i64 1,.int .i64 3,.int .i64 2,Value.slice none 0 0] #[(0,1),(1,1),(2,1),(3,1),(4,1),(5,1),(6,7),(13,1)] runUnderlying56 Y56 (places56 underlying56) H (by kernel_rfl)) H<|O.l (Lo.al Y56 H) H ?_
  rintro _ _ ⟨g6,rfl,rfl⟩
  refine O.l0 (Lo.st 0 Z56 H H H H H H H) ?_
  rintro _ _ rfl
  refine O.oo 6 H<|O.p (Pu.sub' H H (by omega)) H<|O.oc 2 H ?_
  refine J.cd H (fun p7=>?_) (fun p7=>?_)
  ·
   refine J.co 2 H<|O.q (Qt.lv 0 A54 H H H) H<|O.oo 1 H<|O.p (Pu.add' H H (by omega)) H<|O.p (Pu.build [(0,.int .i64 ((k:Int)+1)),(2,.int .i64 6),(3,.int .i64 20)] [.int .i64 ((k:Int)+1),.int .i64 0,.int .i64 6,.int .i64 20] #[(0,1),(1,1),(2,1),(3,1)] runUnderlying136 Y136 (places136 underlying136) H (by kernel_rfl)) H ?_
   refine O.l (Lo.bm Cl.cells [(⟨(k:Int)+1,0,6,20⟩:Cl)] U54 Z136 Y136 H H H (by kernel_rfl) H H) H ?_
   rintro V8 _ rfl
   refine O.nr 136 4 (([]:List Cl).map Cl.cells) H<|O.l (Lo.am 0 underlying54 info136 H H H H H (Src.row 1 H) Cl.one (by first|omega|(simp only [List.length_append,List.length_cons,List.length_nil];omega)) (by first|omega|(simp only [List.length_append,List.length_cons,List.length_nil];omega))) H ?_
   rintro V9 _ rfl
   refine O.oo 1 H ?_
   refine O.one (Src.row 0 H) (fun hV10=>?_)
   refine O.l0 (Lo.so 2 sizeOf54 hV10 H H H H) ?_
   rintro _ _ rfl
   refine O.nil ?_
   refine J.one (Src.row 0 H) (fun hV=>?_)
   refine J.co 2 H<|O.q (Qt.lv 5 A23 H H H) H<|O.q (Qt.lva 2 A56 Z56 H H H) H<|O.l (Lo.bm Sg.cells [(⟨1,4,10,1,64,20,1,4,10,5,1,3,2,V9,([]:List Cl)++([(⟨(k:Int)+1,0,6,20⟩:Cl)]),hV⟩:Sg)] U23 Z56 Y56 H H H (by cases V9<;>first|(simp [Value.oneCell'] at hV;done)|kernel_rfl) H H) H ?_
   rintro V11 _ rfl
   refine O.l (Lo.am 7 N23 info56 H H H H H (Src.row 0 H) Sg.one (by first|omega|(simp only [List.length_append,List.length_cons,List.length_nil];omega)) (by first|omega|(simp only [List.length_append,List.length_cons,List.length_nil];omega))) H ?_
   rintro V12 _ rfl
   refine O.oo 1 H ?_
   refine O.one (Src.row 7 H) (fun hV13=>?_)
   refine O.l0 (Lo.so 6 Z23 hV13 H H H H) ?_
   rintro _ _ rfl
   refine O.oc 2 H<|J.re (L':=[bun ((l++([(⟨1,4,10,1,64,20,1,4,10,5,1,3,2,V9,([]:List Cl)++([(⟨(k:Int)+1,0,6,20⟩:Cl)]),hV⟩:Sg)])).map (Sg.row 136)),row V11 56 14 (([(⟨1,4,10,1,64,20,1,4,10,5,1,3,2,V9,([]:List Cl)++([(⟨(k:Int)+1,0,6,20⟩:Cl)]),hV⟩:Sg)]).map Sg.cells),row V8 136 4 (([(⟨(k:Int)+1,0,6,20⟩:Cl)]).map Cl.cells),var g6 [.int .i64 1,.int .i64 4,.int .i64 10,.int .i64 1,.int .i64 64,.int .i64 20,.int .i64 1,.int .i64 4,.int .i64 10,.int .i64 5,.int .i64 1,.int .i64 3,.int .i64 2,V9] 56,row V4 3 1 (([1,4,10,5,1,3,2]).map encZ),var g2 [.int .i64 2,.int .i64 4,.int .i64 1000,.int .u64 1,V12] 25,row V12 56 14 ((l++([(⟨1,4,10,1,64,20,1,4,10,5,1,3,2,V9,([]:List Cl)++([(⟨(k:Int)+1,0,6,20⟩:Cl)]),hV⟩:Sg)])).map Sg.cells),var g1 [.int .i64 0,.int .i64 0,.int .i64 0,.int .u64 0,Value.slice none 0 0] 25]) (Re.trans (Re.sn [1,5,0,2,3,4,6,7,8] H) (Si.sg_into H H))<|J.co 2 H<|O.p (Pu.add' H H (by omega)) H<|O.oc 2 H ?_
   exact J.lq ⟨k+1,V12,l++([(⟨1,4,10,1,64,20,1,4,10,5,1,3,2,V9,([]:List Cl)++([(⟨(k:Int)+1,0,6,20⟩:Cl)]),hV⟩:Sg)])⟩ [0,2,3] [0,5,6] [7] ⟨by omega,Si.us_next hd (Si.usd_yes (by omega)).symm,(by simp only [List.length_append,List.length_cons,List.length_nil];omega)⟩ (by dsimp only;omega) ⟨(eqi (by omega)),trivial⟩ H H
  refine J.skip<|J.nr 136 4 (([]:List Cl).map Cl.cells) H<|J.co 2 H<|O.q (Qt.lv 4 A23 H H H) H<|O.q (Qt.lva 1 A56 Z56 H H H) H ?_
  refine O.l (Lo.bm Sg.cells [(⟨1,4,10,1,64,20,1,4,10,5,1,3,2,Value.slice none 0 0,([]:List Cl),H⟩:Sg)] U23 Z56 Y56 H H H (by kernel_rfl) H H) H ?_
  rintro V14 _ rfl
  refine O.l (Lo.am 6 N23 info56 H H H H H (Src.row 0 H) Sg.one (by first|omega|(simp only [List.length_append,List.length_cons,List.length_nil];omega)) (by first|omega|(simp only [List.length_append,List.length_cons,List.length_nil];omega))) H ?_
  rintro V15 _ rfl
  refine O.oo 1 H ?_
  refine O.one (Src.row 6 H) (fun hV16=>?_)
  refine O.l0 (Lo.so 5 Z23 hV16 H H H H) ?_
  rintro _ _ rfl
  refine O.oc 2 H<|J.re (L':=[bun ((l++([(⟨1,4,10,1,64,20,1,4,10,5,1,3,2,Value.slice none 0 0,([]:List Cl),H⟩:Sg)])).map (Sg.row 136)),row V14 56 14 (([(⟨1,4,10,1,64,20,1,4,10,5,1,3,2,Value.slice none 0 0,([]:List Cl),H⟩:Sg)]).map Sg.cells),var g6 [.int .i64 1,.int .i64 4,.int .i64 10,.int .i64 1,.int .i64 64,.int .i64 20,.int .i64 1,.int .i64 4,.int .i64 10,.int .i64 5,.int .i64 1,.int .i64 3,.int .i64 2,Value.slice none 0 0] 56,row V4 3 1 (([1,4,10,5,1,3,2]).map encZ),var g2 [.int .i64 2,.int .i64 4,.int .i64 1000,.int .u64 1,V15] 25,row V15 56 14 ((l++([(⟨1,4,10,1,64,20,1,4,10,5,1,3,2,Value.slice none 0 0,([]:List Cl),H⟩:Sg)])).map Sg.cells),var g1 [.int .i64 0,.int .i64 0,.int .i64 0,.int .u64 0,Value.slice none 0 0] 25]) (Re.trans (Re.sn [1,4,0,2,3,5,6,7] H) (Si.sg_into H H))<|J.co 2 H<|O.p (Pu.add' H H (by omega)) H<|O.oc 2 H ?_
  exact J.lq ⟨k+1,V15,l++([(⟨1,4,10,1,64,20,1,4,10,5,1,3,2,Value.slice none 0 0,([]:List Cl),H⟩:Sg)])⟩ [0,2,3] [0,4,5] [6] ⟨by omega,Si.us_next hd (Si.usd_no (by omega)).symm,(by simp only [List.length_append,List.length_cons,List.length_nil];omega)⟩ (by dsimp only;omega) ⟨(eqi (by omega)),trivial⟩ H H
 refine J.co 3 H<|O.q (Qt.lva 1 A25 Z25 H H H) H ?_
 refine O.one (Src.row 2 H) (fun hV17=>?_)
 refine O.l0 (Lo.st 3 Z25 H H H H H (by simp only [List.all_cons,List.all_nil,Bool.and_true,hV17]<;>rfl) H) ?_
 rintro _ _ rfl
 refine O.nil ?_
 exact J.rn [_] [2,0] H ⟨⟨_,_,0,0,_,H,(Cel.var 3 H),H,(Cut.agg [.int .i64 2,.int .i64 4,.int .i64 1000,.int .u64 1,V] A25 Z25 H H)⟩,trivial⟩ H ⟨V,l,H,(by rw [hd,show k=n from by omega]),H⟩
end Go.Proofs.YtohjlkjhpibkmaaGreatDoor
namespace Go.LK.Nd
open Go Go.LK
section
variable {N:Nc} {Z Z':Sx} {a:Ad} {es:List Ev} {fs:List Fr} {e:Int}
theorem Init.lt {b c sf:Int} {e:Sg} (h:Init N Z b c sf e):Z.Lt 0:=⟨by rw [h.many];decide,by rw [h.cl];decide,by rw [h.wl];decide,by decide⟩
end
end Go.LK.Nd
namespace Go.LK.Nd
open Go Go.LK
theorem aw_site {l:List Sg} (h:Si.dat l=Si.usK 1 1):∃ s0,l=[s0]∧s0.nums=[1,4,10,1,64,20,1,4,10,5,1,3,2]∧s0.cl=[]:=by
  match l,h with
  | [],h=>simp [Si.dat,Si.usK] at h
  | [s0],h =>
    simp only [Si.dat,Si.usK,Si.usd,List.map_cons,List.map_nil,List.range_succ,List.range_zero,List.nil_append,List.cons.injEq,and_true,Prod.mk.injEq] at h
    exact ⟨s0,rfl,h.1,by simpa using h.2⟩
  | _ :: _ :: _,h=>simp [Si.dat,Si.usK,List.range_succ] at h
theorem aw_ros {T:Nat} {s0:Sg}:∀ w,(bun ([s0].map (Sg.row T))).holds w→(ros ([({ s0 with x1:=1 }:Sg)].map Sg.rd)).holds w∧∀ k∈(ros ([({ s0 with x1:=1 }:Sg)].map Sg.rd)).foot,k∈(bun ([s0].map (Sg.row T))).foot:=sg_ros (T:=T) (l:=[s0])
theorem aw_chk {s0:Sg} (hn:s0.nums=[1,4,10,1,64,20,1,4,10,5,1,3,2]) (hc:s0.cl=[]):Si.chk 2 4 1000 [{ s0 with x1:=1 }]=0:=by
  have hl:Gr.loops (gOf [({ s0 with x1:=1 }:Sg)])=0:=by
    unfold gOf
    simp only [List.map_cons,List.map_nil,hc]
    exact Gr.loops_yes (o:=[0]) (by kernel_rfl)
  have hk:Si.chkN 2 4 [({ s0 with x1:=1 }:Sg)] [({ s0 with x1:=1 }:Sg)].length=true:=by
    simp only [Sg.nums,List.cons.injEq,and_true] at hn
    obtain ⟨h0,h1,h2,h3,h4,h5,h6,h7,h8,h9,h10,h11,h12⟩:=hn
    unfold Si.chkN
    simp only [List.length_cons,List.length_nil,List.range_succ,List.range_zero,List.nil_append,List.all_cons,List.all_nil,Bool.and_true,List.getElem?_cons_zero,Sg.nums,h0,h2,h3,h4,h5,h6,h7,h8,h9,h10,h11,h12,hc]
    kernel_rfl
  exact (if_pos (by rw [hk];rfl)).trans hl
theorem aw_new {s0:Sg} (hn:s0.nums=[1,4,10,1,64,20,1,4,10,5,1,3,2]) (hc:s0.cl=[]):newB 2 4 1000 [{ s0 with x1:=1 }] 0=true:=newB_iff.2 ⟨aw_chk hn hc,by decide,by simp⟩
structure AwN (N:Nc):Prop where
  slf:N.self=0
  lev:N.lev=8
  wk:N.wk=1
  qn:N.qn=1
  calls:N.calls=[]
theorem aw_n {N:Nc} {Z:Sx} {s0 e:Sg} (hn:s0.nums=[1,4,10,1,64,20,1,4,10,5,1,3,2]) (hc:s0.cl=[]) (he:([({ s0 with x1:=1 }:Sg)]:List Sg)[(0:Int).toNat]?=some e) (h:Init N Z 2 4 0 e):AwN N:=by
  cases he
  simp only [Sg.nums,List.cons.injEq,and_true] at hn
  exact ⟨h.slf,by rw [h.lev];decide,by rw [h.wk];exact hn.1,h.qn,by rw [h.calls];exact hc⟩
structure AwS (Z:Sx) (t js:List Im) (m:Int):Prop where
  now:Z.now=0
  thr:Z.k.thr=8
  qt:Z.q.t.Perm t
  pj:(its Z.ps).Perm js
  jm:∀ x∈js,getI Z.jm x.id=some (jNew x)
  sn:∀ k,(getI Z.sn.m k).isSome=true→1≤k∧k≤m
section
variable {N:Nc} {Z Z':Sx} {es:List Ev} {fs:List Fr} {e:Int} {t js:List Im} {x:Im}
theorem aw_zero {b c:Int} {s0:Sg} (hN:AwN N) (h:Init N Z b c 0 s0):AwS Z [] [] 0 :=
  ⟨h.now,by rw [h.thr,hN.lev],by rw [h.q],by rw [h.ps],by simp,fun k hk=>by rw [h.snm] at hk;simp [getI] at hk⟩
theorem aw_req {m id level:Int} (hN:AwN N) (hS:Z.Ok N) (hA:AwS Z t js m) (hm:id=m+1) (hx:1≤id∧id≤3∧0≤level∧level≤7)
    (hnt:∀ y∈t++js,y.id≠id) (h:ReqR N Z id (-1) 0 level 50 9 Z' es fs e) :
    ∃ x:Im,x.id=id∧x.level=level∧e=0∧Z'.now=0∧Z'.k.thr=8∧(∀ k,(getI Z'.sn.m k).isSome=true→1≤k∧k≤id)∧∃ k1 t1 es1 SS,LineR N 0 k1 x Z.q.t t1 [⟨1,0,0,id,0,level,8⟩] es1 [] fs∧OnR N 0 t1 Z'.q.t (its Z.ps) (its Z'.ps) Z.jm Z'.jm es1 es SS∧Full N Z'.q.t (its Z'.ps):=by
  obtain ⟨h6,h7,h8,h9⟩:=hx
  have hr:rightQ N id (-1) 0 level 50 9=true:=by
    unfold rightQ
    rw [okQ_iff.2 ⟨by omega,by omega,by omega,by omega,by omega,by omega⟩,hN.slf,hN.lev]
    simp;omega
  rcases h with ⟨h,_⟩|⟨_,he,hsn,hst,h⟩
  · rw [hr] at h;cases h
  have htw:twiceB Z id=false:=by
    have a1:getI Z.jm id=none:=hS.i.j.no.2 fun y hy=>hnt y (List.mem_append_right _ (hA.pj.mem_iff.1 hy))
    have a2:(getI Z.q.m id).isSome=false:=hS.q.hk.noneIff.2 fun y hy=>hnt y (List.mem_append_left _ (hA.qt.mem_iff.1 hy))
    have a3:(getI Z.sn.m id).isSome=false:=by
      cases hq:(getI Z.sn.m id).isSome with
      | false=>rfl
      | true=>have:=hA.sn _ hq;omega
    unfold twiceB;rw [a1,a2,a3];rfl
  rcases h with ⟨h,_⟩|⟨_,k1,t1,es1,SS,hk1,hl,ho,hf⟩
  · rw [htw] at h;cases h
  have hc:comes Z.now k1.thr level 50=0:=by
    unfold comes Sh.passes
    rw [hA.now,hk1.thr,hA.thr];simp;omega
  rw [hc,hA.now,hk1.thr,hA.thr,hN.slf] at hl
  rw [hA.now] at ho
  refine ⟨⟨id,level,-1,50,9,0,Z.many+1⟩,rfl,rfl,he,by rw [hst.now,hA.now],by rw [hst.k.thr,hA.thr],fun k hk=>?_,k1,t1,es1,SS,?_,ho,hf⟩
  · rcases hsn k hk with rfl|hk
    · omega
    · have:=hA.sn k hk;omega
  · rcases hl with ⟨h,_⟩|⟨_,h⟩
    · exact absurd rfl h
    · exact h
theorem two_perm {a b:Im} {l:List Im} (h:(a :: l).Perm [b,a]):l=[b]:=by
  have h1:(a :: l).Perm (a :: [b]):=h.trans (List.Perm.swap a b [])
  exact List.perm_singleton.1 ((List.perm_cons a).1 h1)
theorem its_one (hN:AwN N) (hS:Z.Ok N):(its Z.ps).length≤1:=by
  have h:=its_le hS.i.hb
  rw [hN.wk] at h;exact h
theorem aw1 (hN:AwN N) (hS:Z.Ok N) (hA:AwS Z [] [] 0) (h:ReqR N Z 1 (-1) 0 2 50 9 Z' es fs e):e=0∧es.length=2∧∃ x1:Im,x1.id=1∧AwS Z' [] [x1] 1:=by
  obtain ⟨x,hx1,hx2,he,hn,ht,hk,k1,t1,es1,SS,hl,ho,hf⟩:=aw_req hN hS hA (by decide) (by decide) (by simp) h
  have hq:Z.q.t=[]:=List.perm_nil.1 hA.qt
  have hj:its Z.ps=[]:=List.perm_nil.1 hA.pj
  rcases hl with ⟨_,hp,rfl,_⟩|⟨hc,_⟩
  · rw [hq] at hp
    have h1:=ho.t;have h2:=ho.p;rw [hj,List.append_nil] at h2
    have h3:(SS++Z'.q.t).Perm [x]:=h1.symm.trans hp
    have h4:=h3.length_eq
    have hS1:SS=[x]∧Z'.q.t=[]:=by
      match SS,h3,h4 with
      | [],h3,h4 =>
        exfalso
        rcases hf with hf|hf
        · rw [hf] at h4;simp at h4
        · rw [hN.wk] at hf
          have:=h2.length_eq;simp at this;rw [this] at hf;simp at hf
      | [a],h3,h4 =>
        have h5:Z'.q.t=[]:=by simpa using h4
        rw [h5] at h3
        exact ⟨List.perm_singleton.1 (by simpa using h3),h5⟩
      | _ :: _ :: _,h3,h4=>simp at h4
    obtain ⟨rfl,hq'⟩:=hS1
    exact ⟨he,by rw [ho.e];rfl,x,hx1,hn,ht,by rw [hq'],h2,fun y hy=>ho.j y hy,hk⟩
  · rw [hq,hN.qn] at hc;simp at hc
theorem aw_full {t1 es1 SS} (hN:AwN N) (hS':Z'.Ok N) (hj:(its Z.ps).length=1) (ho:OnR N 0 t1 Z'.q.t (its Z.ps) (its Z'.ps) Z.jm Z'.jm es1 es SS):SS=[]∧es=es1∧t1.Perm Z'.q.t∧(its Z'.ps).Perm (its Z.ps)∧∀ id,getI Z'.jm id=getI Z.jm id:=by
  have h1:=ho.p.length_eq
  have h2:=its_one hN hS'
  rw [List.length_append] at h1
  have h3:SS=[]:=List.eq_nil_of_length_eq_zero (by omega)
  subst h3
  exact ⟨rfl,by rw [ho.e];simp,by simpa using ho.t,by simpa using ho.p,fun id=>ho.o id (by simp)⟩
theorem aw2 {x1:Im} (hN:AwN N) (hS:Z.Ok N) (hx:x1.id=1) (hA:AwS Z [] [x1] 1) (hS':Z'.Ok N) (h:ReqR N Z 2 (-1) 0 3 50 9 Z' es fs e):e=0∧es.length=1∧∃ x2:Im,x2.id=2∧x2.level=3∧AwS Z' [x2] [x1] 2:=by
  obtain ⟨x,hx1,hx2,he,hn,ht,hk,k1,t1,es1,SS,hl,ho,hf⟩:=aw_req hN hS hA (by decide) (by decide) (by intro y hy;simp at hy;subst hy;omega) h
  have hq:Z.q.t=[]:=List.perm_nil.1 hA.qt
  obtain ⟨_,he1,h1,h2,h3⟩:=aw_full hN hS' (by rw [hA.pj.length_eq];rfl) ho
  rcases hl with ⟨_,hp,rfl,_⟩|⟨hc,_⟩
  · rw [hq] at hp
    exact ⟨he,by rw [he1];rfl,x,hx1,hx2,hn,ht,h1.symm.trans hp,h2.trans hA.pj,fun y hy=>by rw [h3];exact hA.jm y hy,hk⟩
  · rw [hq,hN.qn] at hc;simp at hc
theorem aw3 {x1 x2:Im} (hN:AwN N) (hS:Z.Ok N) (hx:x1.id=1) (hy:x2.id=2) (hyl:x2.level=3) (hA:AwS Z [x2] [x1] 2) (hS':Z'.Ok N) (h:ReqR N Z 3 (-1) 0 1 50 9 Z' es fs e):e=0∧es.length=2∧es[1]?=some ⟨4,0,0,2,5,3,0⟩∧∃ x3:Im,AwS Z' [x3] [x1] 3:=by
  obtain ⟨x,hx1,hx2,he,hn,ht,hk,k1,t1,es1,SS,hl,ho,hf⟩:=aw_req hN hS hA (by decide) (by decide) (by intro y hy;simp at hy;rcases hy with rfl|rfl<;>omega) h
  have hq:Z.q.t=[x2]:=List.perm_singleton.1 hA.qt
  obtain ⟨_,he1,h1,h2,h3⟩:=aw_full hN hS' (by rw [hA.pj.length_eq];rfl) ho
  rcases hl with ⟨hc,_⟩|⟨_,y,hp,hz,he2,_⟩
  · rw [hq,hN.qn] at hc;simp at hc
  · rw [hq] at hp
    have hy2:y=x2∧t1=[x]:=by
      have hm:y∈[x,x2]:=hp.mem_iff.1 List.mem_cons_self
      simp only [List.mem_cons,List.not_mem_nil,or_false] at hm
      rcases hm with rfl|rfl
      · exfalso
        have h4:t1=[x2]:=List.perm_singleton.1 ((List.perm_cons y).1 hp)
        have:=hz x2 (by rw [h4];simp);omega
      · exact ⟨rfl,two_perm hp⟩
    obtain ⟨rfl,rfl⟩:=hy2
    have he3:es=[⟨1,0,0,3,0,1,8⟩,⟨4,0,0,2,5,3,0⟩]:=by
      rw [he1,he2];unfold endE;rw [hy,hyl,hN.slf];rfl
    exact ⟨he,by rw [he3];rfl,by rw [he3];rfl,x,hn,ht,h1.symm,h2.trans hA.pj,fun y hy=>by rw [h3];exact hA.jm y hy,hk⟩
theorem aw4 {x1 x3:Im} (hN:AwN N) (hS:Z.Ok N) (hx:x1.id=1) (hA:AwS Z [x3] [x1] 3) (hS':Z'.Ok N) (h:DonR N Z 1 Z' es fs e):e=0∧(∃ f,fs=[f]∧f.rc=1)∧(its Z'.ps).length=1:=by
  have hg:getI Z.jm 1=some (jNew x1):=by rw [←hx];exact hA.jm x1 (by simp)
  rcases h with ⟨h,_⟩|⟨j,hj,h⟩
  · rw [hg] at h;cases h
  rw [hg] at hj;cases hj
  rcases h with ⟨h,_⟩|⟨_,he,_,_,js1,m1,es1,SS,hca,ho,hf⟩
  · exact absurd rfl h
  obtain ⟨C,G,_,_,hc0,_,_,hca⟩:=hca
  obtain ⟨rfl,rfl⟩:=hc0 hN.calls
  rcases hca with ⟨code,_,hc1,hp,_,_,hfs⟩|⟨hc,_⟩
  · obtain rfl:=hc1 hN.calls
    have hjs:js1=[]:=by
      have:=hp.length_eq;rw [hA.pj.length_eq] at this
      simp at this;exact this
    subst hjs
    refine ⟨he,⟨_,by simpa using hfs,rfl⟩,?_⟩
    rcases hf with hf|hf
    · have h1:=ho.t.length_eq;have h2:=ho.p.length_eq
      rw [hf,hA.qt.length_eq] at h1;simp at h1 h2;omega
    · rw [hN.wk] at hf;omega
  · exact absurd hN.calls hc
end
end Go.LK.Nd
namespace Go.Proofs.YtohjlkjhpibkmaaGreatDoor
open Go Go.LK Go.Proofs.Tryz
set_option maxRecDepth 100000
set_option maxHeartbeats 4000000
theorem l35_awake :Tri prog 10 #[] [] [] (fun v L'=>v=.bool true∧L'=[]):=by
 refine Tri.en func10 H ntmps10 H fun w0=>J.co 6 H<|O.l (Lo.ca call31 (r30_Usual 1 (by decide)) [] H H .nil) H ?_
 rintro _ _ ⟨_,⟨V,l,rfl,hd,rfl⟩,rfl⟩
 obtain ⟨s0,rfl,hsn,hsc⟩:=Nd.aw_site hd
 refine O.l (Lo.al Y25 H) H ?_
 rintro _ _ ⟨g2,rfl,rfl⟩
 refine O.one (Src.row 1 H) (fun hV3=>?_)
 refine O.l0 (Lo.st 0 Z25 H H H H H (by simp only [List.all_cons,List.all_nil,Bool.and_true,hV3]<;>rfl) H) ?_
 rintro _ _ rfl
 refine O.oc 2 H ?_
 refine J.one (Src.row 1 H) (fun hV=>?_)
 refine J.co 2 H<|O.q (Qt.lv 0 A23 H H H) H ?_
 have he4:([s0])[0]?=some s0:=rfl
 refine O.q (Qt.ix U23 Z56 H (Src.row 1 H) he4 H (by rfl)) H<|O.oo 1 H<|O.l0 (Lo.storeM 1 (j:=0) (off:=1) (vs:=[.int .i64 1]) (e:=[.int .i64 s0.x0,.int .i64 s0.x1,.int .i64 s0.x2,.int .i64 s0.x3,.int .i64 s0.x4,.int .i64 s0.x5,.int .i64 s0.x6,.int .i64 s0.x7,.int .i64 s0.x8,.int .i64 s0.x9,.int .i64 s0.x10,.int .i64 s0.x11,.int .i64 s0.x12,s0.cv]) ({ s0 with x1:=1 }) H H H H (by omega) he4 H Z3 H H H H H) ?_
 rintro _ _ rfl
 refine O.oo 3 H<|O.q (Qt.lva 0 A25 Z25 H H H) H<|O.l (Lo.ca call23 (nw_New 2 4 1000 1 V [({ s0 with x1:=1 }:Sg)] 0 hV (by simp) (by simp [hsc]) (Nd.aw_new hsn hsc)) [] H H (.of 1 row_rd H H (.of 2 (Nd.aw_ros (T:=136)) H H .nil))) H ?_
 rintro _ _ ⟨_,⟨N,Z0,e,he,hN,hZ0,hini,hsvs,rfl,rfl⟩,rfl⟩
 have haN:=Nd.aw_n hsn hsc he hini
 have hs0:=Nd.aw_zero haN hini
 refine O.oo 8 H<|O.l (Lo.al zeroValue93 H) H ?_
 rintro _ _ ⟨g7,rfl,rfl⟩
 refine O.oc 7 H<|J.un<|J.co 14 H<|O.p (Pu.add' H H (by decide)) H<|O.p (Pu.buildA [(0,.int .i64 2),(1,.int .i64 3),(2,.int .i64 1)] [.int .i64 2,.int .i64 3,.int .i64 1] U95 zeroValue95 Z3 H (by kernel_rfl)) H ?_
 refine O.oo 1 H<|O.p (Pu.indexK1 (cs:=[.int .i64 2,.int .i64 3,.int .i64 1]) U95 Z3 A3 H H (by decide) (by decide) H) H<|O.p (Pu.build [(0,.int .i64 1),(1,.int .i64 (-1)),(3,.int .i64 2),(4,.int .i64 50),(5,.int .i64 9)] [.int .i64 1,.int .i64 (-1),.int .i64 0,.int .i64 2,.int .i64 50,.int .i64 9] #[(0,1),(1,1),(2,1),(3,1),(4,1),(5,1)] U41 Y41 (places41 N41) H (by kernel_rfl)) H<|O.l (Lo.ca call32 (nw_Request N Z0 0 1 (-1) 0 2 50 9 hN hZ0 hini.lt (by decide)) [1,2,3,4,5,6,7,8,9,10,11] H H .nil) H ?_
 rintro _ _ ⟨_,⟨Z8,E9,func10,es11,fs12,e13,hR14,rfl,rfl⟩,rfl⟩
 obtain ⟨he1,hl1,x1,hx1,hs1⟩:=Nd.aw1 haN hZ0 hs0 hR14.2.2
 refine O.oo 3 H<|O.l (Lo.al Y36 H) H ?_
 rintro _ _ ⟨g16,rfl,rfl⟩
 refine O.one (Src.row 1 H) (fun hV17=>?_)
 refine O.one (Src.row 2 H) (fun hV18=>?_)
 refine O.l0 (Lo.st 0 Z36 H H H H H (by simp only [List.all_cons,List.all_nil,Bool.and_true,hV17,hV18]<;>rfl) H) ?_
 rintro _ _ rfl
 refine O.oo 5 H<|O.q (Qt.lva 0 A36 Z36 H H H) H<|O.p (Pu.indexAddrK 0 U93 Z36 H H (by decide) (by decide) H) H<|O.l0 (Lo.st 14 Z36 H H H H H (by simp only [List.all_cons,List.all_nil,Bool.and_true,hV17,hV18]<;>rfl) H) ?_
 rintro _ _ rfl
 refine O.oc 6 H<|J.condF H (decide_eq_false (fun h_=>h_ he1))<|J.co 4 H<|O.p (Pu.add' H H (by decide)) H<|O.oc 2 H ?_
 refine J.again<|J.co 14 H<|O.p (Pu.add' H H (by decide)) H<|O.p (Pu.buildA [(0,.int .i64 2),(1,.int .i64 3),(2,.int .i64 1)] [.int .i64 2,.int .i64 3,.int .i64 1] U95 zeroValue95 Z3 H (by kernel_rfl)) H<|O.oo 1 H ?_
 refine O.p (Pu.indexK1 (cs:=[.int .i64 2,.int .i64 3,.int .i64 1]) U95 Z3 A3 H H (by decide) (by decide) H) H<|O.p (Pu.build [(0,.int .i64 2),(1,.int .i64 (-1)),(3,.int .i64 3),(4,.int .i64 50),(5,.int .i64 9)] [.int .i64 2,.int .i64 (-1),.int .i64 0,.int .i64 3,.int .i64 50,.int .i64 9] #[(0,1),(1,1),(2,1),(3,1),(4,1),(5,1)] U41 Y41 (places41 N41) H (by kernel_rfl)) H<|O.l (Lo.ca call32 (nw_Request N Z8 1 2 (-1) 0 3 50 9 hN hR14.1 hR14.2.1 (by decide)) [3,4,5,6,7,8,9,10,11,12,13] H H .nil) H ?_
 rintro _ _ ⟨_,⟨Z19,E20,func21,es22,fs23,e24,hR25,rfl,rfl⟩,rfl⟩
 obtain ⟨he2,hl2,x2,hx2,hx2l,hs2⟩:=Nd.aw2 haN hR14.1 hx1 hs1 hR25.1 hR25.2.2
 refine O.oo 3 H<|O.l (Lo.al Y36 H) H ?_
 rintro _ _ ⟨g27,rfl,rfl⟩
 refine O.one (Src.row 1 H) (fun hV28=>?_)
 refine O.one (Src.row 2 H) (fun hV29=>?_)
 refine O.l0 (Lo.st 0 Z36 H H H H H (by simp only [List.all_cons,List.all_nil,Bool.and_true,hV28,hV29]<;>rfl) H) ?_
 rintro _ _ rfl
 refine O.oo 5 H<|O.q (Qt.lva 0 A36 Z36 H H H) H<|O.p (Pu.indexAddrK 2 U93 Z36 H H (by decide) (by decide) H) H<|O.l0 (Lo.st 17 Z36 H H H H H (by simp only [List.all_cons,List.all_nil,Bool.and_true,hV28,hV29]<;>rfl) H) ?_
 rintro _ _ rfl
 refine O.oc 6 H<|J.condF H (decide_eq_false (fun h_=>h_ he2))<|J.co 4 H<|O.p (Pu.add' H H (by decide)) H<|O.oc 2 H ?_
 refine J.again<|J.co 14 H<|O.p (Pu.add' H H (by decide)) H<|O.p (Pu.buildA [(0,.int .i64 2),(1,.int .i64 3),(2,.int .i64 1)] [.int .i64 2,.int .i64 3,.int .i64 1] U95 zeroValue95 Z3 H (by kernel_rfl)) H<|O.oo 1 H ?_
 refine O.p (Pu.indexK1 (cs:=[.int .i64 2,.int .i64 3,.int .i64 1]) U95 Z3 A3 H H (by decide) (by decide) H) H<|O.p (Pu.build [(0,.int .i64 3),(1,.int .i64 (-1)),(3,.int .i64 1),(4,.int .i64 50),(5,.int .i64 9)] [.int .i64 3,.int .i64 (-1),.int .i64 0,.int .i64 1,.int .i64 50,.int .i64 9] #[(0,1),(1,1),(2,1),(3,1),(4,1),(5,1)] U41 Y41 (places41 N41) H (by kernel_rfl)) H<|O.l (Lo.ca call32 (nw_Request N Z19 2 3 (-1) 0 1 50 9 hN hR25.1 hR25.2.1 (by decide)) [3,4,5,6,7,8,9,10,11,12,13] H H .nil) H ?_
 rintro _ _ ⟨_,⟨Z30,E31,func32,es33,fs34,e35,hR36,rfl,rfl⟩,rfl⟩
 obtain ⟨he3,hl3,hv3,x3,hs3⟩:=Nd.aw3 haN hR25.1 hx1 hx2 hx2l hs2 hR36.1 hR36.2.2
 refine O.oo 3 H<|O.l (Lo.al Y36 H) H ?_
 rintro _ _ ⟨g38,rfl,rfl⟩
 refine O.one (Src.row 1 H) (fun hV39=>?_)
 refine O.one (Src.row 2 H) (fun hV40=>?_)
 refine O.l0 (Lo.st 0 Z36 H H H H H (by simp only [List.all_cons,List.all_nil,Bool.and_true,hV39,hV40]<;>rfl) H) ?_
 rintro _ _ rfl
 refine O.oo 5 H<|O.q (Qt.lva 0 A36 Z36 H H H) H<|O.p (Pu.indexAddrK 4 U93 Z36 H H (by decide) (by decide) H) H<|O.l0 (Lo.st 20 Z36 H H H H H (by simp only [List.all_cons,List.all_nil,Bool.and_true,hV39,hV40]<;>rfl) H) ?_
 rintro _ _ rfl
 refine O.oc 6 H<|J.condF H (decide_eq_false (fun h_=>h_ he3))<|J.co 4 H<|O.p (Pu.add' H H (by decide)) H<|O.oc 2 H ?_
 refine J.again<|J.co 11 H<|O.l (Lo.ca call33 (nw_Done N Z30 3 1 hN hR36.1 hR36.2.1 (by decide)) [3,4,5,6,7,8,9,10,11,12,13] H H .nil) H ?_
 rintro _ _ ⟨_,⟨Z41,E42,func43,es44,fs45,e46,hR47,rfl,rfl⟩,rfl⟩
 obtain ⟨he4,⟨f0,hfs,hrc⟩,hjl⟩:=Nd.aw4 haN hR36.1 hx1 hs3 hR47.1 hR47.2.2
 have hf0:fs45[0]?=some f0:=by rw [hfs];rfl
 refine O.oo 3 H<|O.l (Lo.al Y36 H) H ?_
 rintro _ _ ⟨g49,rfl,rfl⟩
 refine O.one (Src.row 1 H) (fun hV50=>?_)
 refine O.one (Src.row 2 H) (fun hV51=>?_)
 refine O.l0 (Lo.st 0 Z36 H H H H H (by simp only [List.all_cons,List.all_nil,Bool.and_true,hV50,hV51]<;>rfl) H) ?_
 rintro _ _ rfl
 refine O.oo 7 H<|O.gz (Pu.qt (Pu.indexAddrK 0 U93 Z36 H H (by decide) (by decide) H)) H H<|O.oo 1 H<|O.gz (Qt.lv 23 A33 H H H) H H<|O.gz (Qt.lenM U33 H (Src.row 21 H)) H H ?_
 refine O.oo 3 H<|O.kt 54 H (decide_eq_true (by rw [hl1];rfl))<|O.gz (Pu.qt (Pu.indexAddrK 2 U93 Z36 H H (by decide) (by decide) H)) H H<|O.oo 1 H<|O.gz (Qt.lv 23 A33 H H H) H H ?_
 refine O.gz (Qt.lenM U33 H (Src.row 18 H)) H H<|O.oo 3 H<|O.kt 61 H (decide_eq_true (by rw [hl2];rfl))<|O.gz (Pu.qt (Pu.indexAddrK 4 U93 Z36 H H (by decide) (by decide) H)) H H<|O.oo 1 H ?_
 refine O.gz (Qt.lv 23 A33 H H H) H H<|O.gz (Qt.lenM U33 H (Src.row 15 H)) H H<|O.oo 3 H<|O.kt 68 H (decide_eq_true (by rw [hl3];rfl))<|O.gz (Pu.qt (Pu.indexAddrK 4 U93 Z36 H H (by decide) (by decide) H)) H H ?_
 refine O.oo 1 H<|O.gz (Qt.lv 23 A33 H H H) H H<|O.gz (Qt.ix U33 Z51 H (Src.row 15 H) hv3 H (by rfl)) H H<|O.gz (Qt.lea isAgg51 Z51 (Src.row 15 H) hv3 0 H (by omega) H) H H<|O.gz (Pu.qt (Pu.build [(0,.int .i64 4),(3,.int .i64 2),(4,.int .i64 5),(5,.int .i64 3)] [.int .i64 4,.int .i64 0,.int .i64 0,.int .i64 2,.int .i64 5,.int .i64 3,.int .i64 0] #[(0,1),(1,1),(2,1),(3,1),(4,1),(5,1),(6,1)] runUnderlying51 Y51 (places51 N51) H (by kernel_rfl))) H H ?_
 refine O.gz (Pu.qt (Pu.eqlI [(⟨4,0,0,2,5,3,0⟩:Ev).kind,(⟨4,0,0,2,5,3,0⟩:Ev).tick,(⟨4,0,0,2,5,3,0⟩:Ev).s,(⟨4,0,0,2,5,3,0⟩:Ev).id,(⟨4,0,0,2,5,3,0⟩:Ev).code,(⟨4,0,0,2,5,3,0⟩:Ev).a,(⟨4,0,0,2,5,3,0⟩:Ev).b] [4,0,0,2,5,3,0] N51 stoodInHeld51 eqGuardType51 (fint51 N51) H H H H)) H H<|O.oo 2 H<|O.kt 77 H (by rfl)<|O.oo 4 H<|O.kt 81 H (decide_eq_true he4) ?_
 refine O.oo 1 H<|O.gz (Qt.lv 0 isAgg34 H H H) H H<|O.gz (Qt.lenM U34 H (Src.row 2 H)) H H<|O.oo 3 H<|O.kt 87 H (decide_eq_true (by rw [hfs];rfl)) ?_
 refine O.oo 1 H<|O.gz (Qt.lv 0 isAgg34 H H H) H H<|O.gz (Qt.ix U34 sizeOf62 H (Src.row 2 H) hf0 H (by rfl)) H H<|O.oo 2 H<|O.gz (Qt.le A3 (Src.row 2 H) hf0 10 H (by omega) H) H H ?_
 refine O.oo 3 H<|O.kt 96 H (decide_eq_true hrc)<|O.oo 1 H<|O.gy (Lo.ca call14 (nw_Jobs N Z41 hN hR47.1) [] H H (.own 3 H H (.own 6 H H (.own 7 H H (.own 8 H H .nil))))) H H ?_
 rintro v54 _ ⟨_,⟨jl52,hj53,rfl⟩,rfl⟩
 have hjq:=congrArg List.length hj53
 rw [List.length_map] at hjq
 refine O.gz (Qt.lenM U57 H (Src.row 0 H)) H H<|O.oc 4 H ?_
 exact J.r0 H H ⟨(by rw [show ((jl52.length:Nat):Int)=1 from by omega];rfl),H⟩
end Go.Proofs.YtohjlkjhpibkmaaGreatDoor
namespace Go.LK.Nd
open Go Go.LK
def stO (O:List Int) (v:Ev):Option (List Int) :=
  if v.kind=1 then (if v.id∈O then none else some (O++[v.id]))
  else if v.kind=4∨v.kind=12 then (if v.id∈O then some (Jb.without O v.id) else none)
  else if v.kind=3∨v.kind=5∨v.kind=6 then (if v.id∈O then some O else none)
  else some O
def runO:List Int→List Ev→Option (List Int)
  | O,[]=>some O
  | O,v :: es=>(stO O v).bind fun O1=>runO O1 es
def Tr (P:List Int) (es:List Ev) (P':List Int):Prop:=∃ Q,runO P es=some Q∧Q.Perm P'
section
variable {P P' P'' P2 Q:List Int} {v:Ev} {es es2:List Ev}
theorem stO_perm (hp:P.Perm P2) (h:stO P v=some Q):∃ Q2,stO P2 v=some Q2∧Q.Perm Q2:=by
  unfold stO at h ⊢
  have hm:v.id∈P↔v.id∈P2:=hp.mem_iff
  by_cases h1:v.kind=1
  · rw [if_pos h1] at h ⊢
    by_cases h2:v.id∈P
    · rw [if_pos h2] at h;cases h
    · rw [if_neg h2] at h;cases h
      rw [if_neg (fun h3=>h2 (hm.2 h3))]
      exact ⟨_,rfl,hp.append_right _⟩
  rw [if_neg h1] at h ⊢
  by_cases h3:v.kind=4∨v.kind=12
  · rw [if_pos h3] at h ⊢
    by_cases h2:v.id∈P
    · rw [if_pos h2] at h;cases h
      rw [if_pos (hm.1 h2)]
      exact ⟨_,rfl,hp.filter _⟩
    · rw [if_neg h2] at h;cases h
  rw [if_neg h3] at h ⊢
  by_cases h4:v.kind=3∨v.kind=5∨v.kind=6
  · rw [if_pos h4] at h ⊢
    by_cases h2:v.id∈P
    · rw [if_pos h2] at h;cases h
      rw [if_pos (hm.1 h2)]
      exact ⟨_,rfl,hp⟩
    · rw [if_neg h2] at h;cases h
  rw [if_neg h4] at h ⊢
  cases h;exact ⟨_,rfl,hp⟩
theorem runO_perm:∀ {es:List Ev} {P P2 Q:List Int},P.Perm P2→runO P es=some Q→∃ Q2,runO P2 es=some Q2∧Q.Perm Q2
  | [],P,P2,Q,hp,h=>by cases h;exact ⟨_,rfl,hp⟩
  | v :: es,P,P2,Q,hp,h=>by
    unfold runO at h ⊢
    obtain ⟨R,hR,h⟩:=Option.bind_eq_some_iff.1 h
    obtain ⟨R2,hR2,hp2⟩:=stO_perm hp hR
    obtain ⟨Q2,hQ2,hp3⟩:=runO_perm hp2 h
    exact ⟨Q2,by rw [hR2];exact hQ2,hp3⟩
theorem runO_app:∀ {es:List Ev} {P:List Int},runO P (es++es2)=(runO P es).bind fun Q=>runO Q es2
  | [],P=>rfl
  | v :: es,P=>by
    show (stO P v).bind (fun O1=>runO O1 (es++es2))=((stO P v).bind fun O1=>runO O1 es).bind fun Q=>runO Q es2
    rw [Option.bind_assoc]
    congr 1;funext O1;exact runO_app
theorem runO_drop {O O':List Int} {k:Nat} {v:Ev} (h:runO O (es.drop k)=some O') (hv:es[k]?=some v):∃ O1,stO O v=some O1∧runO O1 (es.drop (k+1))=some O':=by
  obtain ⟨hk,hv⟩:=List.getElem?_eq_some_iff.1 hv
  rw [List.drop_eq_getElem_cons hk,hv] at h
  exact Option.bind_eq_some_iff.1 h
theorem Tr.perm (hp:P.Perm P2) (h:Tr P es P'):Tr P2 es P':=by
  obtain ⟨Q,h1,h2⟩:=h
  obtain ⟨Q2,h3,h4⟩:=runO_perm hp h1
  exact ⟨Q2,h3,h4.symm.trans h2⟩
theorem Tr.to (h:Tr P es P') (hp:P'.Perm P''):Tr P es P'':=by
  obtain ⟨Q,h1,h2⟩:=h
  exact ⟨Q,h1,h2.trans hp⟩
theorem Tr.nil (hp:P.Perm P'):Tr P [] P':=⟨P,rfl,hp⟩
theorem Tr.app (h:Tr P es P') (h2:Tr P' es2 P''):Tr P (es++es2) P'':=by
  obtain ⟨Q,h1,hp⟩:=h
  obtain ⟨Q2,h3,h4⟩:=h2.perm hp.symm
  exact ⟨Q2,by rw [runO_app,h1];exact h3,h4⟩
theorem Tr.came (hk:v.kind=1) (h:v.id∉P):Tr P [v] (v.id :: P) :=
  ⟨P++[v.id],by simp [runO,stO,hk,h],List.perm_append_comm⟩
theorem without_cons {i:Int} (h:i∉P):Jb.without (i :: P) i=P:=by
  unfold Jb.without
  rw [List.filter_cons_of_neg (by simp),List.filter_eq_self]
  intro x hx
  simp only [ne_eq,decide_eq_true_eq]
  intro he;exact h (he ▸ hx)
theorem Tr.gone (hk:v.kind=4∨v.kind=12) (h:v.id∉P):Tr (v.id :: P) [v] P:=by
  have h1:v.kind≠1:=by omega
  refine ⟨Jb.without (v.id :: P) v.id,?_,by rw [without_cons h]⟩
  simp [runO,stO,h1,hk]
theorem Tr.is (hk:v.kind=3∨v.kind=5∨v.kind=6) (h:v.id∈P):Tr P [v] P:=by
  have h1:v.kind≠1:=by omega
  have h2:¬(v.kind=4∨v.kind=12):=by omega
  exact ⟨P,by simp [runO,stO,h1,h2,hk,h],.refl _⟩
theorem Tr.misc (hk:v.kind=2∨7≤v.kind∧v.kind≤11):Tr P [v] P:=by
  have h1:v.kind≠1:=by omega
  have h2:¬(v.kind=4∨v.kind=12):=by omega
  have h3:¬(v.kind=3∨v.kind=5∨v.kind=6):=by omega
  exact ⟨P,by simp [runO,stO,h1,h2,h3],.refl _⟩
theorem Tr.iss:∀ {l:List Ev},(∀ v∈l,(v.kind=3∨v.kind=5∨v.kind=6)∧v.id∈P)→Tr P l P
  | [],_=>.nil (.refl _)
  | v :: l,h=>(Tr.is (h v List.mem_cons_self).1 (h v List.mem_cons_self).2).app (es2:=l) (Tr.iss fun u hu=>h u (List.mem_cons_of_mem _ hu))
theorem Tr.gones {f:Im→Ev} (hf:∀ y,((f y).kind=4∨(f y).kind=12)∧(f y).id=y.id):∀ {D R:List Im},((D++R).map Im.id).Nodup→Tr ((D++R).map Im.id) (D.map f) (R.map Im.id)
  | [],R,_=>.nil (.refl _)
  | y :: D,R,hn=>by
    rw [List.cons_append,List.map_cons,List.nodup_cons] at hn
    have h1:=Tr.gone (v:=f y) (P:=(D++R).map Im.id) (hf y).1 (by rw [(hf y).2];exact hn.1)
    rw [(hf y).2] at h1
    exact h1.app (es2:=D.map f) (Tr.gones hf hn.2)
end
def cE (es:List Ev):Nat:=es.countP fun v=>decide (v.kind=4)
def cF (fs:List Fr):Nat:=fs.countP fun f=>decide (f.kind=2)
def Bal (es:List Ev) (fs:List Fr):Prop:=cE es=cF fs
section
variable {es es2:List Ev} {fs fs2:List Fr} {N:Nc} {k:Kt} {now:Int}
theorem Bal.app (h:Bal es fs) (h2:Bal es2 fs2):Bal (es++es2) (fs++fs2):=by
  unfold Bal cE cF at *;rw [List.countP_append,List.countP_append,h,h2]
theorem Bal.none (h:∀ v∈es,v.kind≠4) (h2:∀ f∈fs,f.kind≠2):Bal es fs:=by
  unfold Bal cE cF
  rw [List.countP_eq_zero.2 fun v hv=>by simpa using h v hv,List.countP_eq_zero.2 fun v hv=>by simpa using h2 v hv]
theorem Bal.more (h:Bal es fs) (h2:∀ v∈es2,v.kind≠4):Bal (es++es2) fs:=by
  have:=h.app (Bal.none h2 (fs:=[]) (by simp));rwa [List.append_nil] at this
theorem Bal.ends {l:List (Im×Int)}:Bal (l.map (endE now N.self)) (l.map (endF N.self k)):=by
  unfold Bal cE cF
  rw [List.countP_map,List.countP_map];rfl
theorem Bal.ends2 {l:List Im} {g:Im→Int}:Bal (l.map fun x=>endE now N.self (x,g x)) (l.map fun x=>endF N.self k (x,g x)):=by
  unfold Bal cE cF
  rw [List.countP_map,List.countP_map];rfl
theorem Bal.one {p:Im×Int}:Bal [endE now N.self p] [endF N.self k p]:=Bal.ends (l:=[p])
end
section
variable {N:Nc} {now:Int} {k:Kt} {t t' js js' SS:List Im} {m m':List (Int×Jb)} {es es':List Ev} {fs fs':List Fr} {P:List Int} {x:Im} {code:Int}
theorem OnR.tr (h:OnR N now t t' js js' m m' es es' SS) (hp:Tr P es ((t++js).map Im.id)):Tr P es' ((t'++js').map Im.id):=by
  rw [h.e]
  refine hp.app ((Tr.iss fun v hv=>?_).to (h.all.symm.map Im.id))
  obtain ⟨y,hy,rfl⟩:=List.mem_map.1 hv
  exact ⟨.inl rfl,List.mem_map.2 ⟨y,List.mem_append_left _ (h.t.mem_iff.2 (List.mem_append_left _ hy)),rfl⟩⟩
theorem OnR.bal (h:OnR N now t t' js js' m m' es es' SS) (hb:Bal es fs):Bal es' fs:=by
  rw [h.e]
  refine hb.more fun v hv=>?_
  obtain ⟨y,hy,rfl⟩:=List.mem_map.1 hv
  show (3:Int)≠4;decide
theorem ids_head (hp:js.Perm (x :: js')):((t++js).map Im.id).Perm (x.id :: (t++js').map Im.id) :=
  ((List.Perm.append_left t hp).trans List.perm_middle).map Im.id
theorem gone_one (hp:js.Perm (x :: js')) (hn:((t++js).map Im.id).Nodup):Tr ((t++js).map Im.id) [endE now N.self (x,code)] ((t++js').map Im.id):=by
  have h1:=ids_head (t:=t) hp
  have h2:=h1.nodup_iff.1 hn
  exact (Tr.gone (v:=endE now N.self (x,code)) (.inl rfl) (List.nodup_cons.1 h2).1).perm h1.symm
theorem OvR.tr (h:OvR N now k t t' js js' m m' es es' fs fs' x code) (hn:((t++js).map Im.id).Nodup) (h0:Tr P es ((t++js).map Im.id)):Tr P es' ((t'++js').map Im.id):=by
  obtain ⟨js1,SS,hp,ho,_⟩:=h
  exact ho.tr (h0.app (gone_one hp hn))
theorem OvR.bal (h:OvR N now k t t' js js' m m' es es' fs fs' x code) (h0:Bal es fs):Bal es' fs':=by
  obtain ⟨js1,SS,hp,ho,hf,_⟩:=h
  rw [hf];exact ho.bal (h0.app Bal.one)
end
section
variable {N:Nc} {Z Z':Sx} {a:Ad} {es:List Ev} {fs:List Fr} {e:Int}
def idz (Z:Sx):List Int:=(Z.q.t++its Z.ps).map Im.id
theorem one_same (h:Z'=Z) (h1:es=[]) (h2:fs=[]):Tr (idz Z) es (idz Z')∧Bal es fs:=by
  subst h h1 h2;exact ⟨.nil (.refl _),rfl⟩
theorem one_err {c:Int} (h:Err Z Z' es fs e c):Tr (idz Z) es (idz Z')∧Bal es fs:=one_same h.s h.es h.fs
theorem one_req {id fr to level dl bu:Int} (hS:Z.Ok N) (h:ReqR N Z id fr to level dl bu Z' es fs e):Tr (idz Z) es (idz Z')∧Bal es fs:=by
  rcases h with ⟨_,h⟩|⟨_,_,_,_,⟨_,rfl,rfl,hq,hp,_⟩|⟨htw,k1,t1,es1,SS,_,hl,ho,_⟩⟩
  · exact one_err h
  · refine ⟨(Tr.misc (.inl rfl)).to ?_,Bal.none (by simp) (by simp)⟩
    unfold idz;rw [hq,hp]
  · have hno:id∉idz Z:=fun hm=>by
      obtain ⟨y,hy,he⟩:=List.mem_map.1 hm
      exact twice_no hS htw y hy he
    rcases hl with ⟨_,rfl,rfl,rfl⟩|⟨_,hl⟩
    · refine ⟨ho.tr ?_,ho.bal ?_⟩
      · exact (Tr.came (P:=idz Z) rfl hno).app (es2:=[_]) (Tr.gone (.inl rfl) hno)
      · exact (Bal.none (es:=[_]) (fs:=[]) (by simp) (by simp)).app (es2:=[_]) (fs2:=[_]) Bal.one
    · refine ⟨ho.tr ?_,ho.bal ?_⟩
      · rcases hl with ⟨_,hp,rfl,_⟩|⟨_,y,hp,_,rfl,_⟩
        · exact (Tr.came (P:=idz Z) rfl hno).to ((hp.append_right (its Z.ps)).symm.map Im.id)
        · refine (Tr.came (P:=idz Z) rfl hno).app (es2:=[_]) ?_
          have h1:(id :: idz Z).Perm (y.id :: (t1++its Z.ps).map Im.id):=(hp.append_right (its Z.ps)).symm.map Im.id
          have h2:(id :: idz Z).Nodup:=List.nodup_cons.2 ⟨hno,hS.ids⟩
          exact (Tr.gone (v:=endE Z.now N.self (y,5)) (.inl rfl) (List.nodup_cons.1 (h1.nodup_iff.1 h2)).1).perm h1.symm
      · rcases hl with ⟨_,hp,rfl,rfl⟩|⟨_,y,hp,_,rfl,rfl⟩
        · exact Bal.none (by simp) (by simp)
        · exact (Bal.none (es:=[_]) (fs:=[]) (by simp) (by simp)).app Bal.one
theorem one_brk {id:Int} (hS:Z.Ok N) (h:BrkR N Z id Z' es fs e):Tr (idz Z) es (idz Z')∧Bal es fs:=by
  rcases h with ⟨_,h⟩|⟨j,_,⟨_,h⟩|⟨_,_,_,_,h⟩⟩
  · exact one_err h
  · exact one_err h
  · exact ⟨h.tr hS.ids (.nil (.refl _)),h.bal rfl⟩
theorem one_don {id:Int} (hS:Z.Ok N) (h:DonR N Z id Z' es fs e):Tr (idz Z) es (idz Z')∧Bal es fs:=by
  rcases h with ⟨_,h⟩|⟨j,hj,⟨_,h⟩|⟨_,_,_,_,js1,m1,es1,SS,hca,ho,_⟩⟩
  · exact one_err h
  · exact one_err h
  · obtain ⟨C,G,hC,hG,_,_,_,hca⟩:=hca
    have hx:j.x∈its Z.ps:=(hS.i.j.job _ _ hj).1
    have hC1:Tr (idz Z) C (idz Z):=Tr.iss fun v hv=>⟨.inr (hC v hv).1,by rw [(hC v hv).2];exact List.mem_map.2 ⟨j.x,List.mem_append_right _ hx,rfl⟩⟩
    have hB1:Bal C G:=Bal.none (fun v hv=>by have:=(hC v hv).1;omega) fun f hf=>by have:=hG f hf;omega
    rcases hca with ⟨code,_,_,hp,_,rfl,rfl⟩|⟨_,rfl,rfl,rfl,_⟩
    · exact ⟨ho.tr (hC1.app (gone_one hp hS.ids)),ho.bal (hB1.app Bal.one)⟩
    · exact ⟨ho.tr hC1,ho.bal hB1⟩
theorem one_rep {id fr to code thr ep tier:Int} (hS:Z.Ok N) (h:RepR N Z id fr to code thr ep tier Z' es fs e):Tr (idz Z) es (idz Z')∧Bal es fs:=by
  rcases h with ⟨_,h⟩|⟨_,_,_,_,es1,w,⟨q,rfl,hq⟩,h⟩
  · exact one_err h
  · have h1:Tr (idz Z) (q++[⟨7,Z.now,N.self,id,code,fr,w⟩]) (idz Z):=by
      refine Tr.app (P':=idz Z) ?_ (Tr.misc (.inr ⟨by simp,by simp⟩))
      rcases hq with rfl|rfl
      · exact .nil (.refl _)
      · exact Tr.misc (.inr ⟨by simp,by simp⟩)
    have h2:Bal (q++[⟨7,Z.now,N.self,id,code,fr,w⟩]) []:=by
      refine Bal.none (fun v hv=>?_) (by simp)
      rcases List.mem_append.1 hv with hv|hv
      · rcases hq with rfl|rfl
        · simp at hv
        · obtain rfl:=List.mem_singleton.1 hv;show (8:Int)≠4;decide
      · obtain rfl:=List.mem_singleton.1 hv;show (7:Int)≠4;decide
    rcases h with ⟨rfl,rfl,hq,hp,_⟩|⟨jid,j,hj,h⟩
    · exact ⟨h1.to (by unfold idz;rw [hq,hp]),h2⟩
    · rcases h with ⟨ht,hp,rfl,rfl,_⟩|⟨code,_,h⟩
      · exact ⟨h1.to (by unfold idz;rw [ht,hp]),h2⟩
      · exact ⟨h.tr hS.ids h1,h.bal h2⟩
theorem one_pus {to ver:Int} {ks:List Int} (h:PusR N Z to ver ks Z' es fs e):Tr (idz Z) es (idz Z')∧Bal es fs:=by
  rcases h with ⟨_,h⟩|⟨_,_,_,_,_,hq,hp,_,b,rfl,rfl⟩
  · exact one_err h
  · exact ⟨(Tr.misc (.inr ⟨by simp,by simp⟩)).to (by unfold idz;rw [hq,hp]),Bal.none (by simp) (by simp)⟩
theorem kept_gone:∀ {o:List Im} {now:Int},o.Perm (Gone o now o.length++Kept o now o.length):=fun {o now}=>by
  unfold Gone Kept;rw [List.take_of_length_le (Nat.le_refl _)]
  refine (List.filter_append_perm (fun x=>decide (ends x now=0)) o).symm.trans ?_
  refine List.perm_append_comm.trans ?_
  exact List.Perm.append_right _ (List.Perm.of_eq (List.filter_congr fun x _=>by rfl))
theorem one_tic (hS:Z.Ok N) (h:TicR N Z Z' es fs e):Tr (idz Z) es (idz Z')∧Bal es fs:=by
  obtain ⟨_,_,_,_,o,t1,D,js1,m1,es1,es2,fs1,SS,k1,ho,ht,hl,_,hm,hn,rfl,_⟩:=h
  have hp1:(idz Z).Perm ((Gone o Z'.now o.length++(D++(t1++js1))).map Im.id):=by
    refine List.Perm.map Im.id ?_
    refine ((ho.symm.trans (kept_gone (now:=Z'.now))).append hl.p).trans ?_
    rw [List.append_assoc]
    refine List.Perm.append_left _ ?_
    rw [←List.append_assoc,←List.append_assoc]
    refine List.Perm.append_right js1 ?_
    exact List.perm_append_comm.trans (List.Perm.append_left D ht.symm)
  have hn1:=hp1.nodup_iff.1 hS.ids
  have h1:Tr (idz Z) ((Gone o Z'.now o.length).map fun x=>endE Z'.now N.self (x,ends x Z'.now)) ((D++(t1++js1)).map Im.id) :=
    (Tr.gones (fun y=>⟨.inl rfl,rfl⟩) hn1).perm hp1.symm
  have hn2:((D++(t1++js1)).map Im.id).Nodup:=by
    rw [List.map_append] at hn1;exact (List.nodup_append.1 hn1).2.1
  have h2:Tr (idz Z) es1 ((t1++js1).map Im.id):=by
    rw [hl.e]
    exact h1.app (Tr.gones (fun y=>⟨.inl rfl,rfl⟩) hn2)
  have b2:Bal es1 fs:=by rw [hl.e,hl.f];exact Bal.ends2.app Bal.ends2
  rcases hm with ⟨_,rfl,_⟩|⟨_,_,vd,rfl⟩
  · exact ⟨hn.tr h2,hn.bal b2⟩
  · refine ⟨hn.tr (h2.app (Tr.misc (.inr ⟨by simp,by simp⟩))),hn.bal (b2.more fun v hv=>?_)⟩
    obtain rfl:=List.mem_singleton.1 hv;show (9:Int)≠4;decide
theorem one_rst (hS:Z.Ok N) (h:RstR N Z Z' es fs e):Tr (idz Z) es (idz Z')∧Bal es fs:=by
  obtain ⟨_,rfl,_,_,hq,hp,_,_,_,_,_,_,_,_,o,ho,rfl⟩:=h
  have h0:idz Z'=[]:=by unfold idz;rw [hq,hp];rfl
  have hp1:(idz Z).Perm ((o++its Z.ps++[]).map Im.id):=by rw [List.append_nil];exact (ho.symm.append_right _).map Im.id
  refine ⟨?_,Bal.none (fun v hv=>?_) (by simp)⟩
  · rw [h0]
    exact Tr.app ((Tr.gones (D:=o++its Z.ps) (R:=[]) (f:=fun x=>⟨12,Z.now,N.self,x.id,0,x.level,0⟩) (fun y=>⟨.inr rfl,rfl⟩) (hp1.nodup_iff.1 hS.ids)).perm hp1.symm) (Tr.misc (.inr ⟨by simp,by simp⟩))
  · rcases List.mem_append.1 hv with hv|hv
    · obtain ⟨y,_,rfl⟩:=List.mem_map.1 hv;show (12:Int)≠4;decide
    · obtain rfl:=List.mem_singleton.1 hv;show (11:Int)≠4;decide
theorem one_fact (hS:Z.Ok N) (h:DoR N Z a Z' es fs e):Tr (idz Z) es (idz Z')∧Bal es fs:=by
  rcases h with ⟨_,h⟩|⟨_,h⟩|⟨_,h⟩|⟨_,h⟩|⟨_,h⟩|⟨_,h⟩|⟨_,h⟩|⟨_,h,h1,h2,_⟩
  · exact one_req hS h
  · exact one_don hS h
  · exact one_brk hS h
  · exact one_rep hS h
  · exact one_pus h
  · exact one_tic hS h
  · exact one_rst hS h
  · exact one_same h h1 h2
theorem OnR.elen {now:Int} {t t' js js' SS:List Im} {m m':List (Int×Jb)} {es es':List Ev} (h:OnR N now t t' js js' m m' es es' SS):es'.length≤es.length+t.length:=by
  have h1:=h.t.length_eq;have h2:=h.len
  rw [List.length_append] at h1;omega
theorem OvR.elen {now:Int} {k:Kt} {t t' js js':List Im} {m m':List (Int×Jb)} {es es':List Ev} {fs fs':List Fr} {x:Im} {code:Int} (h:OvR N now k t t' js js' m m' es es' fs fs' x code):es'.length≤es.length+t.length+1∧fs'.length=fs.length+1:=by
  obtain ⟨js1,SS,_,ho,hf,_⟩:=h
  have h1:=ho.elen
  simp only [List.length_append,List.length_cons,List.length_nil] at h1
  exact ⟨by omega,by rw [hf];simp⟩
theorem qs_len (hN:N.Ok) (hS:Z.Ok N):Z.q.t.length≤64∧(its Z.ps).length≤16:=by
  have h1:=hS.q.hl;have h2:=hN.hq1;have h3:=its_le hS.i.hb;have h4:=hN.hw1
  omega
theorem do_len (hN:N.Ok) (hS:Z.Ok N) (h:DoR N Z a Z' es fs e):es.length≤1000∧fs.length≤1000:=by
  obtain ⟨hT,hJ⟩:=qs_len hN hS
  have herr:∀ {c:Int},Err Z Z' es fs e c→es.length≤1000∧fs.length≤1000:=fun h=>by rw [h.es,h.fs];simp
  rcases h with ⟨_,h⟩|⟨_,h⟩|⟨_,h⟩|⟨_,h⟩|⟨_,h⟩|⟨_,h⟩|⟨_,h⟩|⟨_,h,h1,h2,_⟩
  · rcases h with ⟨_,h⟩|⟨_,_,_,_,⟨_,rfl,rfl,_⟩|⟨htw,k1,t1,es1,SS,_,hl,ho,_⟩⟩
    · exact herr h
    · simp
    · have h1:=ho.elen
      rcases hl with ⟨_,rfl,rfl,rfl⟩|⟨_,hl⟩
      · simp at h1 ⊢;omega
      · have h2:=hl.len
        have h3:t1.length≤Z.q.t.length+1:=by
          rcases hl with ⟨_,hp,_⟩|⟨_,y,hp,_⟩
          · have:=hp.length_eq;simp at this;omega
          · have:=hp.length_eq;simp at this;omega
        simp only [List.length_cons,List.length_nil] at h2;omega
  · rcases h with ⟨_,h⟩|⟨j,hj,⟨_,h⟩|⟨_,_,_,_,js1,m1,es1,SS,hca,ho,_⟩⟩
    · exact herr h
    · exact herr h
    · have h1:=ho.elen;have h2:=hca.len
      simp only [List.length_nil] at h2;omega
  · rcases h with ⟨_,h⟩|⟨j,_,⟨_,h⟩|⟨_,_,_,_,h⟩⟩
    · exact herr h
    · exact herr h
    · have:=h.elen;simp only [List.length_nil] at this;omega
  · rcases h with ⟨_,h⟩|⟨_,_,_,_,es1,w,⟨q,rfl,hq⟩,h⟩
    · exact herr h
    · have hq1:q.length≤1:=by rcases hq with rfl|rfl<;>simp
      rcases h with ⟨rfl,rfl,_⟩|⟨jid,j,hj,⟨_,_,rfl,rfl,_⟩|⟨code,_,h⟩⟩
      · simp;omega
      · simp;omega
      · have:=h.elen;simp only [List.length_append,List.length_cons,List.length_nil] at this;omega
  · rcases h with ⟨_,h⟩|⟨_,_,_,_,_,hq,hp,_,b,rfl,rfl⟩
    · exact herr h
    · simp
  · obtain ⟨_,_,_,_,o,t1,D,js1,m1,es1,es2,fs1,SS,k1,ho,ht,hl,_,hm,hn,rfl,_⟩:=h
    have h1:=hn.elen;have h2:=hl.len;have h3:=hl.num;have h4:=ho.length_eq;have h5:=ht.length_eq
    have h6:(Kept o Z'.now o.length).length≤o.length:=by unfold Kept;exact Nat.le_trans (List.length_filter_le _ _) (by rw [List.length_take];omega)
    have h7:(Gone o Z'.now o.length).length≤o.length:=by unfold Gone;exact Nat.le_trans (List.length_filter_le _ _) (by rw [List.length_take];omega)
    simp only [List.length_map] at h2
    have h8:es2.length≤es1.length+1:=by
      rcases hm with ⟨_,rfl,_⟩|⟨_,_,vd,rfl⟩<;>simp
    omega
  · obtain ⟨_,rfl,_,_,_,_,_,_,_,_,_,_,_,_,o,ho,rfl⟩:=h
    have:=ho.length_eq
    simp;omega
  · rw [h1,h2];simp
theorem idz_len (hN:N.Ok) (hS:Z.Ok N) {O:List Int} (hO:O.Perm (idz Z)):O.length≤80:=by
  have h1:=hO.length_eq;have h2:=qs_len hN hS
  unfold idz at h1;simp only [List.length_map,List.length_append] at h1;omega
theorem one_run {O:List Int} (hO:O.Perm (idz Z)) (hS:Z.Ok N) (h:DoR N Z a Z' es fs e):∃ O',runO O es=some O'∧O'.Perm (idz Z'):=(one_fact hS h).1.perm hO.symm
theorem cE_next {k:Nat} {v:Ev} (hv:es[k]?=some v):cE (es.take (k+1))=cE (es.take k)+(if v.kind=4 then 1 else 0):=by
  unfold cE;rw [List.take_add_one,hv,List.countP_append];simp [List.countP_cons]
theorem cF_next {k:Nat} {v:Fr} (hv:fs[k]?=some v):cF (fs.take (k+1))=cF (fs.take k)+(if v.kind=2 then 1 else 0):=by
  unfold cF;rw [List.take_add_one,hv,List.countP_append];simp [List.countP_cons]
theorem cE_all {k:Nat} (hk:¬k < es.length):cE (es.take k)=cE es:=by rw [List.take_of_length_le (by omega)]
theorem cF_all {k:Nat} (hk:¬k < fs.length):cF (fs.take k)=cF fs:=by rw [List.take_of_length_le (by omega)]
section
variable {O O1 O':List Int} {v:Ev}
theorem stO_came (h:stO O v=some O1) (hk:v.kind=1):v.id∉O∧O1=O++[v.id]:=by
  unfold stO at h;rw [if_pos hk] at h
  split at h
  · cases h
  · rename_i h1;cases h;exact ⟨h1,rfl⟩
theorem stO_gone (h:stO O v=some O1) (hk:v.kind=4∨v.kind=12):v.id∈O∧O1=Jb.without O v.id:=by
  unfold stO at h;rw [if_neg (by omega),if_pos hk] at h
  split at h
  · rename_i h1;cases h;exact ⟨h1,rfl⟩
  · cases h
theorem stO_is (h:stO O v=some O1) (hk:v.kind=3∨v.kind=5∨v.kind=6):v.id∈O∧O1=O:=by
  unfold stO at h;rw [if_neg (by omega),if_neg (by omega),if_pos hk] at h
  split at h
  · rename_i h1;cases h;exact ⟨h1,rfl⟩
  · cases h
theorem stO_misc (h:stO O v=some O1) (h1:v.kind≠1) (h2:v.kind≠4) (h3:v.kind≠12) (h4:v.kind≠3) (h5:v.kind≠5) (h6:v.kind≠6):O1=O:=by
  unfold stO at h;rw [if_neg h1,if_neg (by omega),if_neg (by omega)] at h;cases h;rfl
theorem stO_len (h:stO O v=some O1):O1.length≤O.length+1:=by
  by_cases h1:v.kind=1
  · obtain ⟨_,rfl⟩:=stO_came h h1;simp
  by_cases h2:v.kind=4∨v.kind=12
  · obtain ⟨_,rfl⟩:=stO_gone h h2
    exact Nat.le_trans (List.length_filter_le _ _) (by omega)
  by_cases h3:v.kind=3∨v.kind=5∨v.kind=6
  · obtain ⟨_,rfl⟩:=stO_is h h3;omega
  · rw [stO_misc h h1 (by omega) (by omega) (by omega) (by omega) (by omega)];omega
end
theorem one_mem {o:List Im} {P:List Int} {x:Im} {k:Nat} (hP:P.Perm (idz Z)) (ho:o.Perm Z.q.t) (hx:o[k]?=some x):x.id∈P :=
  hP.mem_iff.2 (List.mem_map.2 ⟨x,List.mem_append_left _ (ho.mem_iff.1 (List.mem_of_getElem? hx)),rfl⟩)
theorem one_job {l:List Jo} {P:List Int} {j:Jo} {k:Nat} (hP:P.Perm (idz Z)) (hl:l.map Jo.x=its Z.ps) (hj:l[k]?=some j):j.x.id∈P :=
  hP.mem_iff.2 (List.mem_map.2 ⟨j.x,List.mem_append_right _ (by rw [←hl];exact List.mem_map.2 ⟨j,List.mem_of_getElem? hj,rfl⟩),rfl⟩)
theorem one_len {o:List Im} {l:List Jo} {P:List Int} (hP:P.Perm (idz Z)) (ho:o.Perm Z.q.t) (hl:l.map Jo.x=its Z.ps):o.length+l.length=P.length:=by
  have h1:=hP.length_eq;have h2:=ho.length_eq;have h3:=congrArg List.length hl
  unfold idz at h1;simp only [List.length_map,List.length_append] at h1 h3;omega
theorem Init.idz {b c sf:Int} {s0:Sg} (h:Init N Z b c sf s0):Nd.idz Z=[]:=by unfold Nd.idz;rw [h.q,h.ps];rfl
end
end Go.LK.Nd
