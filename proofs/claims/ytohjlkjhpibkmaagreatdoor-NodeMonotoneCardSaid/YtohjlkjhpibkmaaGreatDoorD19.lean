/-
  Walks, printed by a program of mine.
-/
import Derived.KernelRfl
import Derived.Test.YtohjlkjhpibkmaaGreatDoorD16
import Derived.Test.YtohjlkjhpibkmaaGreatDoorD17
import Derived.Test.YtohjlkjhpibkmaaGreatDoorD18
set_option linter.unusedSimpArgs false
set_option linter.unusedVariables false
namespace Go.Proofs.YtohjlkjhpibkmaaGreatDoor
open Go Go.LK Go.Proofs.Tryz
set_option maxRecDepth 100000
set_option maxHeartbeats 4000000
theorem co_Push (c u d h l:Nat) (lev tiers k0 k1 k2 k3 k4 k5 k6 thr ep:Int) (m0 m1 m2 m3 m4 m5 m6:Int):Tri prog 100 #[.pointer (some ⟨c,0,none⟩),.agg #[.int .i64 m0,.int .i64 m1,.int .i64 m2,.int .i64 m3,.int .i64 m4,.int .i64 m5,.int .i64 m6]] [] [var c [.pointer (some ⟨u,0,none⟩),.pointer (some ⟨d,0,none⟩),.int .i64 lev,.int .i64 tiers,.int .i64 k0,.int .i64 k1,.int .i64 k2,.int .i64 k3,.int .i64 k4,.int .i64 k5,.int .i64 k6,.pointer (some ⟨h,0,none⟩),.pointer (some ⟨l,0,none⟩),.int .i64 thr,.int .i64 ep] 172] (fun v L'=>v=.int .i64 (Kn.check [m0,m1,m2,m3,m4,m5,m6] lev)∧L'=[var c [.pointer (some ⟨u,0,none⟩),.pointer (some ⟨d,0,none⟩),.int .i64 lev,.int .i64 tiers,.int .i64 k0,.int .i64 k1,.int .i64 k2,.int .i64 k3,.int .i64 k4,.int .i64 k5,.int .i64 k6,.pointer (some ⟨h,0,none⟩),.pointer (some ⟨l,0,none⟩),.int .i64 thr,.int .i64 ep] 172]∨v=.int .i64 0∧Kn.check [m0,m1,m2,m3,m4,m5,m6] lev=0∧L'=[var c [.pointer (some ⟨u,0,none⟩),.pointer (some ⟨d,0,none⟩),.int .i64 lev,.int .i64 tiers,.int .i64 m0,.int .i64 m1,.int .i64 m2,.int .i64 m3,.int .i64 m4,.int .i64 m5,.int .i64 m6,.pointer (some ⟨h,0,none⟩),.pointer (some ⟨l,0,none⟩),.int .i64 thr,.int .i64 ep] 172]):=by
 refine Tri.en func100 H ntmps100 H fun w0=>J.co 2 H<|O.l (Lo.bx H H) H ?_
 rintro _ _ ⟨g1,rfl,rfl⟩
 refine O.oo 6 H<|O.l (Lo.ca call173 (co_made c u d h l lev tiers k0 k1 k2 k3 k4 k5 k6 thr ep) [] H H (.own 1 H H .nil)) H ?_
 rintro _ _ ⟨_,⟨rfl,rfl⟩,rfl⟩
 refine O.oc 6 H<|J.drawTail 5 Tryz.mixed (by kernel_rfl)<|S.q (Qt.lva 0 A45 Z45 H H H) H<|S.r 3 H<|S.q (Qt.lv 1 A3 H H H) H<|S.endO<|O.l (Lo.ca call130 (kn_Check m0 m1 m2 m3 m4 m5 m6 lev) [] H H .nil) H ?_
 rintro _ _ ⟨_,⟨rfl,rfl⟩,rfl⟩
 refine O.oc 7 H ?_
 refine J.cd H (fun p4=>?_) (fun p4=>?_)
 ·
  refine J.cc 5 H ?_
  exact J.r1 [1] H H H (Or.inl ⟨H,H⟩)
 refine J.co 4 H<|O.q (Qt.lva 0 A45 Z45 H H H) H<|O.oo 2 H<|O.l0 (Lo.st 1 Z45 H H H H H H H) ?_
 rintro _ _ rfl
 refine O.oc 5 H ?_
 exact J.r1 [1] H H H (Or.inr ⟨H,(by omega),H⟩)
theorem co_New (lev tiers:Int) (m0 m1 m2 m3 m4 m5 m6:Int) (hv0:1≤lev) (hv1:lev≤128) (ht0:0≤tiers) (ht2:tiers≤7) (hkn:Kn.check [m0,m1,m2,m3,m4,m5,m6] lev=0):Tri prog 51 #[.int .i64 lev,.int .i64 tiers,.agg #[.int .i64 m0,.int .i64 m1,.int .i64 m2,.int .i64 m3,.int .i64 m4,.int .i64 m5,.int .i64 m6]] [] [] (fun v L'=>∃ c u d h l,v=.tuple #[.pointer (some ⟨c,0,none⟩),.int .i64 0]∧L'=[var c [.pointer (some ⟨u,0,none⟩),.pointer (some ⟨d,0,none⟩),.int .i64 lev,.int .i64 tiers,.int .i64 m0,.int .i64 m1,.int .i64 m2,.int .i64 m3,.int .i64 m4,.int .i64 m5,.int .i64 m6,.pointer (some ⟨h,0,none⟩),.pointer (some ⟨l,0,none⟩),.int .i64 lev,.int .i64 1] 172,var u [.int .i64 0,.int .i64 0] 309,var d [.bool true,.int .i64 tiers,.int .i64 tiers,.int .i64 32] 296,var h ([Value.int .i64 lev]++(List.replicate 128 (0:Int)).map (Value.int .i64)) 302,var l [.int .i64 0,.int .i64 0,.int .i64 0] 311]):=by
 refine Tri.en func51 H ntmps51 H fun w0=>J.co 2 H<|O.l (Lo.bx H H) H ?_
 rintro _ _ ⟨g1,rfl,rfl⟩
 refine O.oo 6 H<|O.l (Lo.ca call128 (hi_New lev (by omega) (by omega)) [] H H .nil) H ?_
 rintro _ _ ⟨_,⟨g2,rfl,rfl⟩,rfl⟩
 refine O.oc 12 H<|J.condF H (by decide)<|J.co 4 H<|O.l (Lo.ca call129 (di_New tiers (by omega) (by omega)) [] H H .nil) H ?_
 rintro _ _ ⟨_,⟨g4,rfl,rfl⟩,rfl⟩
 refine O.oc 12 H<|J.condF H (by decide)<|J.co 4 H<|O.q (Qt.lva 2 A45 Z45 H H H) H<|O.oo 1 H<|O.l (Lo.ca call130 (kn_Check m0 m1 m2 m3 m4 m5 m6 lev) [] H H .nil) H ?_
 rintro _ _ ⟨_,⟨rfl,rfl⟩,rfl⟩
 refine O.oc 7 H<|J.condF H (decide_eq_false (fun h_=>h_ hkn))<|J.cc 2 H<|J.dm [(1,false),(2,false),(3,false),(4,false),(5,false),(7,false),(0,true),(6,true),(8,false),(9,true),(10,false),(11,false)] [2] Tryz.mixed (by kernel_rfl) H<|Mx.r 3 H<|Mx.q H (Qt.lva 0 A45 Z45 H H H) H<|Mx.r 2 H<|Mx.l H (Lo.ca call131 tu_New [] H H .nil) H ?_
 rintro _ _ ⟨_,⟨g7,rfl,rfl⟩,rfl⟩
 refine MxK.gp [3] [0] H H<|Mx.l H (Lo.ca call132 ld_New [] H H .nil) H ?_
 rintro _ _ ⟨_,⟨g9,rfl,rfl⟩,rfl⟩
 refine MxK.gp [4] [0] H H<|Mx.p H (Pu.build [(0,.pointer (some ⟨g7,0,none⟩)),(1,.pointer (some ⟨g4,0,none⟩)),(2,.int .i64 lev),(3,.int .i64 tiers),(4,.agg #[.int .i64 m0,.int .i64 m1,.int .i64 m2,.int .i64 m3,.int .i64 m4,.int .i64 m5,.int .i64 m6]),(5,.pointer (some ⟨g2,0,none⟩)),(6,.pointer (some ⟨g9,0,none⟩)),(7,.int .i64 lev),(8,.int .i64 1)] [.pointer (some ⟨g7,0,none⟩),.pointer (some ⟨g4,0,none⟩),.int .i64 lev,.int .i64 tiers,.int .i64 m0,.int .i64 m1,.int .i64 m2,.int .i64 m3,.int .i64 m4,.int .i64 m5,.int .i64 m6,.pointer (some ⟨g2,0,none⟩),.pointer (some ⟨g9,0,none⟩),.int .i64 lev,.int .i64 1] #[(0,1),(1,1),(2,1),(3,1),(4,7),(11,1),(12,1),(13,1),(14,1)] U172 zeroValue172 (places172 underlying172) H (by kernel_rfl)) H<|Mx.l H (Lo.bx H H) H ?_
 rintro _ _ ⟨g11,rfl,rfl⟩
 refine MxK.al [5] H (by kernel_rfl)<|Mx.r 2 H<|Mx.nil ?_
 exact J.rn [_,_] [0,2,3,4,1] H ⟨H,H,trivial⟩ H ⟨g11,g7,g4,g2,g9,H,H⟩
theorem tb_Cuts (p:Nat) (ttl:Int) (d:Sh.Ts) (to n now:Int):Tri prog 326 #[.pointer (some ⟨p,0,none⟩),.int .i64 to,.int .i64 n,.int .i64 now] [var p (Sh.tbC ttl d) 215] [] (fun v L'=>v=.bool (Nd.cutT d ttl to n now)∧L'=[]):=by
 refine Tri.en func326 H ntmps326 H fun w0=>J.co 9 H<|O.l (Lo.ca call120 (tb_Get p ttl d to now) [] H H (.ro 0 H .nil)) H ?_
 rintro _ _ ⟨_,⟨rfl,rfl⟩,rfl⟩
 refine O.oo 3 H<|O.l (Lo.al Y175 H) H ?_
 rintro _ _ ⟨g2,rfl,rfl⟩
 refine O.l0 (Lo.st 0 Z175 H H H H H H H) ?_
 rintro _ _ rfl
 refine O.oo 6 H ?_
 refine O.sp 19 H (fun h3=>?_) (fun h3=>?_)
 ·
  refine O.oo 2 H<|O.gz (Qt.lv 0 A3 H H H) H H<|O.gy (Lo.ca call262 (lv_Passes n (((Sh.get d ttl to now).1).thr)) [] H H .nil) H H ?_
  rintro _ _ ⟨_,⟨rfl,rfl⟩,rfl⟩
  refine O.oc 4 H ?_
  exact J.r0 H H ⟨by simp [vOf,Nd.cutT, *],rfl⟩
 refine O.oc 8 H ?_
 exact J.r0 H H ⟨by simp [vOf,Nd.cutT, *],rfl⟩
theorem fa_1 (gc gx:Nat) (c:Cl) (tier lvl now dl:Int):Tri prog 323 #[.pointer (some ⟨gc,0,none⟩),.pointer (some ⟨gx,0,none⟩)] [var gc [.int .i64 c.to,.int .i64 c.tier,.int .i64 c.weight,.int .i64 c.most] 136,var gx [.int .i64 tier,.int .i64 lvl,.int .i64 now,.int .i64 dl] 273] [] (fun v L'=>v=.bool (decide ((if 0 > tier then 0 else tier) < c.tier))∧L'=[]):=by
 refine Tri.en func323 H ntmps323 H fun w0=>J.co 7 H<|O.q (Qt.lw 0 A3 H H H) H<|O.oo 1 H<|O.q (Qt.lw 1 A3 H H H) H<|O.p (Pu.max H H) H<|O.oc 3 H ?_
 exact J.r0 H H ⟨H,H⟩
theorem fa_2 (gk:Nat) (b:Bool):Tri prog 324 #[.pointer (some ⟨gk,0,none⟩)] [var gk [.bool b] 4] [] (fun v L'=>v=.bool (!b)∧L'=[]):=by
 refine Tri.en func324 H ntmps324 H fun w0=>J.co 6 H<|O.q (Qt.lw 0 A4 H H H) H<|O.oc 3 H ?_
 exact J.r0 H H ⟨H,H⟩
theorem fa_3 (gt gc gx p:Nat) (ttl:Int) (d:Sh.Ts) (c:Cl) (tier lvl now dl:Int):Tri prog 325 #[.pointer (some ⟨gt,0,none⟩),.pointer (some ⟨gc,0,none⟩),.pointer (some ⟨gx,0,none⟩)] [var gt [.pointer (some ⟨p,0,none⟩)] 88,var gc [.int .i64 c.to,.int .i64 c.tier,.int .i64 c.weight,.int .i64 c.most] 136,var gx [.int .i64 tier,.int .i64 lvl,.int .i64 now,.int .i64 dl] 273,var p (Sh.tbC ttl d) 215] [] (fun v L'=>v=.bool (Nd.cutT d ttl c.to lvl now)∧L'=[]):=by
 refine Tri.en func325 H ntmps325 H fun w0=>J.co 6 H<|O.q (Qt.lw 0 isAgg88 H H H) H<|O.oo 1 H<|O.q (Qt.lw 1 A3 H H H) H<|O.oo 1 H<|O.q (Qt.lw 2 A3 H H H) H<|O.oo 1 H<|O.q (Qt.lw 2 A3 H H H) H<|O.l (Lo.ca call326 (tb_Cuts p ttl d c.to lvl now) [] H H (.ro 3 H .nil)) H ?_
 rintro _ _ ⟨_,⟨rfl,rfl⟩,rfl⟩
 refine O.oc 2 H ?_
 exact J.r0 H H ⟨H,H⟩
theorem fa_Step (p:Nat) (ttl:Int) (d:Sh.Ts) (c:Cl) (tier lvl now dl:Int):Tri prog 270 #[.agg #[.int .i64 c.to,.int .i64 c.tier,.int .i64 c.weight,.int .i64 c.most],.agg #[.int .i64 tier,.int .i64 lvl,.int .i64 now,.int .i64 dl],.pointer (some ⟨p,0,none⟩)] [var p (Sh.tbC ttl d) 215] [] (fun v L'=>v=.agg #[.int .i64 ((Nd.stepF c tier lvl now dl (Nd.cutT d ttl c.to lvl now)).to),.int .i64 ((Nd.stepF c tier lvl now dl (Nd.cutT d ttl c.to lvl now)).code),.int .i64 ((Nd.stepF c tier lvl now dl (Nd.cutT d ttl c.to lvl now)).dl),.int .i64 ((Nd.stepF c tier lvl now dl (Nd.cutT d ttl c.to lvl now)).bu),.bool ((Nd.stepF c tier lvl now dl (Nd.cutT d ttl c.to lvl now)).rq)]∧L'=[]):=by
 refine Tri.en func270 H ntmps270 H fun w0=>J.co 2 H<|O.l (Lo.bx H H) H ?_
 rintro _ _ ⟨g1,rfl,rfl⟩
 refine O.l (Lo.bx H H) H ?_
 rintro _ _ ⟨g2,rfl,rfl⟩
 refine O.l (Lo.bx H H) H ?_
 rintro _ _ ⟨g3,rfl,rfl⟩
 refine O.l (Lo.al Y241 H) H ?_
 rintro _ _ ⟨g4,rfl,rfl⟩
 refine O.oo 4 H<|O.q (Qt.lv 3 A3 H H H) H<|O.oo 1 H<|O.q (Qt.lv 3 A3 H H H) H<|O.oo 1 H<|O.p (Pu.build [(0,.int .i64 c.to),(4,.bool (decide (c.tier=0)))] [.int .i64 c.to,.int .i64 0,.int .i64 0,.int .i64 0,.bool (decide (c.tier=0))] #[(0,1),(1,1),(2,1),(3,1),(4,1)] runUnderlying241 Y241 (places241 underlying241) H (by kernel_rfl)) H<|O.l (Lo.al Y241 H) H ?_
 rintro _ _ ⟨g5,rfl,rfl⟩
 refine O.l0 (Lo.st 0 Z241 H H H H H H H) ?_
 rintro _ _ rfl
 refine O.oo 4 H<|O.q (Qt.lv 3 A3 H H H) H<|O.oo 1 H<|O.q (Qt.lv 3 A3 H H H) H<|O.oo 1 H<|O.q (Qt.lv 4 A3 H H H) H<|O.oo 1 H<|O.q (Qt.lv 4 A3 H H H) H<|O.l (Lo.ca call322 (sl_Call now dl c.weight c.most) [] H H .nil) H ?_
 rintro _ _ ⟨_,⟨rfl,rfl⟩,rfl⟩
 refine O.oo 4 H<|O.l (Lo.al zeroValue4 H) H ?_
 rintro _ _ ⟨g7,rfl,rfl⟩
 refine O.oo 2 H<|O.l0 (Lo.st 0 Z4 H H H H H H H) ?_
 rintro _ _ rfl
 refine O.oo 4 H<|O.p (Pu.makeFunc [.pointer (some ⟨g1,0,none⟩),.pointer (some ⟨g2,0,none⟩)] H) H<|O.p (Pu.build [(0,.int .i64 11),(1,.func (.func 323) #[] #[.pointer (some ⟨g1,0,none⟩),.pointer (some ⟨g2,0,none⟩)])] [.int .i64 11,.func (.func 323) #[] #[.pointer (some ⟨g1,0,none⟩),.pointer (some ⟨g2,0,none⟩)]] #[(0,1),(1,1)] U373 Y373 (places373 underlying373) H (by kernel_rfl)) H<|O.p (Pu.makeFunc [.pointer (some ⟨g7,0,none⟩)] H) H<|O.p (Pu.build [(0,.int .i64 9),(1,.func (.func 324) #[] #[.pointer (some ⟨g7,0,none⟩)])] [.int .i64 9,.func (.func 324) #[] #[.pointer (some ⟨g7,0,none⟩)]] #[(0,1),(1,1)] U373 Y373 (places373 underlying373) H (by kernel_rfl)) H<|O.p (Pu.makeFunc [.pointer (some ⟨g3,0,none⟩),.pointer (some ⟨g1,0,none⟩),.pointer (some ⟨g2,0,none⟩)] H) H<|O.p (Pu.build [(0,.int .i64 8),(1,.func (.func 325) #[] #[.pointer (some ⟨g3,0,none⟩),.pointer (some ⟨g1,0,none⟩),.pointer (some ⟨g2,0,none⟩)])] [.int .i64 8,.func (.func 325) #[] #[.pointer (some ⟨g3,0,none⟩),.pointer (some ⟨g1,0,none⟩),.pointer (some ⟨g2,0,none⟩)]] #[(0,1),(1,1)] U373 Y373 (places373 underlying373) H (by kernel_rfl)) H<|O.l (Lo.bm Lok.cells [(⟨11,.func (.func 323) #[] #[.pointer (some ⟨g1,0,none⟩),.pointer (some ⟨g2,0,none⟩)],H⟩:Lok),(⟨9,.func (.func 324) #[] #[.pointer (some ⟨g7,0,none⟩)],H⟩:Lok),(⟨8,.func (.func 325) #[] #[.pointer (some ⟨g3,0,none⟩),.pointer (some ⟨g1,0,none⟩),.pointer (some ⟨g2,0,none⟩)],H⟩:Lok)] U374 Z373 Y373 H H H (by kernel_rfl) H H) H ?_
 rintro V8 _ rfl
 refine O.q (Qt.lenM U374 H (Src.row 0 H)) H<|O.oc 3 H<|J.un<|J.co 11 H ?_
 have he9:([(⟨11,.func (.func 323) #[] #[.pointer (some ⟨g1,0,none⟩),.pointer (some ⟨g2,0,none⟩)],rfl⟩:Lok),(⟨9,.func (.func 324) #[] #[.pointer (some ⟨g7,0,none⟩)],rfl⟩:Lok),(⟨8,.func (.func 325) #[] #[.pointer (some ⟨g3,0,none⟩),.pointer (some ⟨g1,0,none⟩),.pointer (some ⟨g2,0,none⟩)],rfl⟩:Lok)])[0]?=some (⟨11,.func (.func 323) #[] #[.pointer (some ⟨g1,0,none⟩),.pointer (some ⟨g2,0,none⟩)],rfl⟩:Lok):=rfl
 refine O.q (Qt.ix U374 Z373 H (Src.row 0 H) he9 H (by rfl)) H<|O.q (Qt.lea isAgg373 Z373 (Src.row 0 H) he9 0 H (by omega) H) H<|O.l (Lo.al Y373 H) H ?_
 rintro _ _ ⟨g10,rfl,rfl⟩
 refine O.l0 (Lo.st 0 Z373 H H H H H H H) ?_
 rintro _ _ rfl
 refine O.oo 4 H<|O.q (Qt.lv 0 isAgg28 H H H) H<|O.l (Lo.cv call323 H H (fa_1 g1 g2 c tier lvl now dl) [] H (.own 7 H H (.own 6 H H .nil))) H ?_
 rintro _ _ ⟨_,⟨rfl,rfl⟩,rfl⟩
 refine O.nil ?_
 refine J.cd H (fun p12=>?_) (fun p12=>?_)
 ·
  refine J.co 3 H<|O.q (Qt.lv 0 A3 H H H) H<|O.oo 1 H<|O.l0 (Lo.st 3 Z3 H H H H H H H) ?_
  rintro _ _ rfl
  refine O.oo 3 H<|O.q (Qt.lva 3 A241 Z241 H H H) H<|O.l0 (Lo.st 4 Z241 H H H H H H H) ?_
  rintro _ _ rfl
  refine O.nil ?_
  exact J.rn [_] [] H ⟨⟨_,_,0,0,_,H,(Cel.var 4 H),H,(Cut.agg [.int .i64 c.to,.int .i64 11,.int .i64 0,.int .i64 0,.bool (decide (c.tier=0))] A241 Z241 H H)⟩,trivial⟩ H ⟨by simp [vOf,Nd.stepF, *],rfl⟩
 refine J.co 3 H<|O.p (Pu.add' H H (by decide)) H<|O.oc 2 H<|J.again<|J.co 11 H ?_
 have he13:([(⟨11,.func (.func 323) #[] #[.pointer (some ⟨g1,0,none⟩),.pointer (some ⟨g2,0,none⟩)],rfl⟩:Lok),(⟨9,.func (.func 324) #[] #[.pointer (some ⟨g7,0,none⟩)],rfl⟩:Lok),(⟨8,.func (.func 325) #[] #[.pointer (some ⟨g3,0,none⟩),.pointer (some ⟨g1,0,none⟩),.pointer (some ⟨g2,0,none⟩)],rfl⟩:Lok)])[1]?=some (⟨9,.func (.func 324) #[] #[.pointer (some ⟨g7,0,none⟩)],rfl⟩:Lok):=rfl
 refine O.q (Qt.ix U374 Z373 H (Src.row 1 H) he13 H (by rfl)) H<|O.q (Qt.lea isAgg373 Z373 (Src.row 1 H) he13 0 H (by omega) H) H<|O.l (Lo.al Y373 H) H ?_
 rintro _ _ ⟨g14,rfl,rfl⟩
 refine O.l0 (Lo.st 0 Z373 H H H H H H H) ?_
 rintro _ _ rfl
 refine O.oo 4 H<|O.q (Qt.lv 0 isAgg28 H H H) H<|O.l (Lo.cv call324 H H (fa_2 g7 ((Nd.callS now dl c.weight c.most).2.2)) [] H (.own 3 H H .nil)) H ?_
 rintro _ _ ⟨_,⟨rfl,rfl⟩,rfl⟩
 refine O.nil ?_
 refine J.cond H (fun h16=>?_) (fun h16=>?_)
 ·
  have h17:((Nd.callS now dl c.weight c.most).2.2)=false:=not_flip h16
  refine J.co 3 H<|O.q (Qt.lv 0 A3 H H H) H<|O.oo 1 H<|O.l0 (Lo.st 4 Z3 H H H H H H H) ?_
  rintro _ _ rfl
  refine O.oo 3 H<|O.q (Qt.lva 4 A241 Z241 H H H) H<|O.l0 (Lo.st 5 Z241 H H H H H H H) ?_
  rintro _ _ rfl
  refine O.nil ?_
  exact J.rn [_] [] H ⟨⟨_,_,0,0,_,H,(Cel.var 5 H),H,(Cut.agg [.int .i64 c.to,.int .i64 9,.int .i64 0,.int .i64 0,.bool (decide (c.tier=0))] A241 Z241 H H)⟩,trivial⟩ H ⟨by simp [vOf,Nd.stepF, *],rfl⟩
 have h18:((Nd.callS now dl c.weight c.most).2.2)=true:=not_flip h16
 refine J.co 3 H<|O.p (Pu.add' H H (by decide)) H<|O.oc 2 H<|J.again<|J.co 11 H ?_
 have he19:([(⟨11,.func (.func 323) #[] #[.pointer (some ⟨g1,0,none⟩),.pointer (some ⟨g2,0,none⟩)],rfl⟩:Lok),(⟨9,.func (.func 324) #[] #[.pointer (some ⟨g7,0,none⟩)],rfl⟩:Lok),(⟨8,.func (.func 325) #[] #[.pointer (some ⟨g3,0,none⟩),.pointer (some ⟨g1,0,none⟩),.pointer (some ⟨g2,0,none⟩)],rfl⟩:Lok)])[2]?=some (⟨8,.func (.func 325) #[] #[.pointer (some ⟨g3,0,none⟩),.pointer (some ⟨g1,0,none⟩),.pointer (some ⟨g2,0,none⟩)],rfl⟩:Lok):=rfl
 refine O.q (Qt.ix U374 Z373 H (Src.row 2 H) he19 H (by rfl)) H<|O.q (Qt.lea isAgg373 Z373 (Src.row 2 H) he19 0 H (by omega) H) H<|O.l (Lo.al Y373 H) H ?_
 rintro _ _ ⟨g20,rfl,rfl⟩
 refine O.l0 (Lo.st 0 Z373 H H H H H H H) ?_
 rintro _ _ rfl
 refine O.oo 4 H<|O.q (Qt.lv 0 isAgg28 H H H) H<|O.l (Lo.cv call325 H H (fa_3 g3 g1 g2 p ttl d c tier lvl now dl) [] H (.own 7 H H (.own 9 H H (.own 8 H H (.ro 0 H .nil))))) H ?_
 rintro _ _ ⟨_,⟨rfl,rfl⟩,rfl⟩
 refine O.nil ?_
 refine J.cond H (fun h22=>?_) (fun h22=>?_)
 ·
  refine J.co 3 H<|O.q (Qt.lv 0 A3 H H H) H<|O.oo 1 H<|O.l0 (Lo.st 5 Z3 H H H H H H H) ?_
  rintro _ _ rfl
  refine O.oo 3 H<|O.q (Qt.lva 5 A241 Z241 H H H) H<|O.l0 (Lo.st 6 Z241 H H H H H H H) ?_
  rintro _ _ rfl
  refine O.nil ?_
  exact J.rn [_] [] H ⟨⟨_,_,0,0,_,H,(Cel.var 6 H),H,(Cut.agg [.int .i64 c.to,.int .i64 8,.int .i64 0,.int .i64 0,.bool (decide (c.tier=0))] A241 Z241 H H)⟩,trivial⟩ H ⟨by simp [vOf,Nd.stepF, *],rfl⟩
 refine J.co 3 H<|O.p (Pu.add' H H (by decide)) H<|O.oc 2 H<|J.again<|J.co 12 H<|O.l0 (Lo.st 5 Z3 H H H H H H H) ?_
 rintro _ _ rfl
 refine O.oo 1 H<|O.l0 (Lo.st 5 Z3 H H H H H H H) ?_
 rintro _ _ rfl
 refine O.oo 3 H<|O.q (Qt.lva 5 A241 Z241 H H H) H<|O.l0 (Lo.st 6 Z241 H H H H H H H) ?_
 rintro _ _ rfl
 refine O.nil ?_
 exact J.rn [_] [] H ⟨⟨_,_,0,0,_,H,(Cel.var 6 H),H,(Cut.agg [.int .i64 c.to,.int .i64 0,.int .i64 ((Nd.callS now dl c.weight c.most).1),.int .i64 ((Nd.callS now dl c.weight c.most).2.1),.bool (decide (c.tier=0))] A241 Z241 H H)⟩,trivial⟩ H ⟨by simp [vOf,Nd.stepF, *],rfl⟩
theorem fa_none (to cd dl bu:Int) (rq:Bool):Tri prog 271 #[.agg #[.int .i64 to,.int .i64 cd,.int .i64 dl,.int .i64 bu,.bool rq]] [] [] (fun v L'=>v=.bool rq∧L'=[]):=by
 refine Tri.en func271 H ntmps271 H fun w0=>J.co 2 H<|O.l (Lo.bx H H) H ?_
 rintro _ _ ⟨g1,rfl,rfl⟩
 refine O.oo 5 H<|O.l0 (Lo.st 0 Z3 H H H H H H H) ?_
 rintro _ _ rfl
 refine O.oo 1 H<|O.l0 (Lo.st 0 Z3 H H H H H H H) ?_
 rintro _ _ rfl
 refine O.oo 1 H<|O.l0 (Lo.st 0 Z3 H H H H H H H) ?_
 rintro _ _ rfl
 refine O.oo 3 H<|O.q (Qt.lva 0 A241 Z241 H H H) H<|O.oo 1 H<|O.q (Qt.lv 0 A3 H H H) H<|O.p (Pu.build [(0,.int .i64 to),(4,.bool true)] [.int .i64 to,.int .i64 0,.int .i64 0,.int .i64 0,.bool true] #[(0,1),(1,1),(2,1),(3,1),(4,1)] runUnderlying241 Y241 (places241 underlying241) H (by kernel_rfl)) H<|O.p (Pu.eqlG (xs:=#[.int .i64 to,.int .i64 0,.int .i64 0,.int .i64 0,.bool rq]) (ys:=#[.int .i64 to,.int .i64 0,.int .i64 0,.int .i64 0,.bool true]) eqGuardType241 (.struct underlying241 stoodInHeld241 (.cons H (partOne (v:=.int .i64 to) A3 H) (partOne (v:=.int .i64 to) A3 H) (.int N3) (.cons H (partOne (v:=.int .i64 0) A3 H) (partOne (v:=.int .i64 0) A3 H) (.int N3) (.cons H (partOne (v:=.int .i64 0) A3 H) (partOne (v:=.int .i64 0) A3 H) (.int N3) (.cons H (partOne (v:=.int .i64 0) A3 H) (partOne (v:=.int .i64 0) A3 H) (.int N3) (.cons H (partOne (v:=.bool rq) A4 H) (partOne (v:=.bool true) A4 H) (.bool N4) .nil)))))) H H) H<|O.oc 2 H ?_
 exact J.r0 H H ⟨by simp [vOf],rfl⟩
theorem fa_Plan (p:Nat) (ttl:Int) (d:Sh.Ts) (tier lvl now dl:Int) (s0 s1 s2 s3 s4 s5 s6 s7 s8 s9 s10 s11 s12:Int) (cv:Value) (cl:List Cl) (hcv:Value.oneCell' cv=true) (hl:cl.length≤100):Tri prog 190 #[.agg #[.int .i64 s0,.int .i64 s1,.int .i64 s2,.int .i64 s3,.int .i64 s4,.int .i64 s5,.int .i64 s6,.int .i64 s7,.int .i64 s8,.int .i64 s9,.int .i64 s10,.int .i64 s11,.int .i64 s12,cv],.agg #[.int .i64 tier,.int .i64 lvl,.int .i64 now,.int .i64 dl],.pointer (some ⟨p,0,none⟩)] [rd cv 4 (cl.map Cl.cells),var p (Sh.tbC ttl d) 215] [] (fun v L'=>∃ V,v=.agg #[.int .i64 (Nd.planS (fun c=>Nd.stepF c tier lvl now dl (Nd.cutT d ttl c.to lvl now)) cl).1,V]∧L'=[row V 241 5 ((Nd.planS (fun c=>Nd.stepF c tier lvl now dl (Nd.cutT d ttl c.to lvl now)) cl).2.map Stp.cells)]):=by
 refine Tri.en func190 H ntmps190 H fun w0=>J.co 2 H<|O.l (Lo.bx H H) H ?_
 rintro _ _ ⟨g1,rfl,rfl⟩
 refine O.l (Lo.bx H H) H ?_
 rintro _ _ ⟨g2,rfl,rfl⟩
 refine O.l (Lo.al Y236 H) H ?_
 rintro _ _ ⟨g3,rfl,rfl⟩
 refine O.oo 3 H<|O.l (Lo.al Y236 H) H ?_
 rintro _ _ ⟨g4,rfl,rfl⟩
 refine O.oc 3 H<|J.nr 241 5 (([]:List Stp).map Stp.cells) H<|J.co 2 H<|O.q (Qt.lv 4 A54 H H H) H<|O.q (Qt.lenM U54 H (Src.ro 0 H)) H<|O.oc 3 H ?_
 refine J.lo (X:=Nat×Value×List Stp) (fun (k,V,ss)=>k≤cl.length∧Nd.NoBad (fun c=>Nd.stepF c tier lvl now dl (Nd.cutT d ttl c.to lvl now)) cl k∧ss=(cl.take k).map (fun c=>Nd.stepF c tier lvl now dl (Nd.cutT d ttl c.to lvl now))) (fun (k,V,ss)=>[(14,.int .i64 (k:Int))]) (fun (k,V,ss)=>[var g4 [.int .i64 0,V] 236,row V 241 5 (ss.map Stp.cells)]) (fun (k,V,ss)=>cl.length-k) ⟨0,Value.slice none 0 0,[]⟩ [2,4,6,7,12,13] [1,0] [3,2] ⟨by omega,Nd.NoBad.zero,rfl⟩ ⟨(eqi (by omega)),trivial⟩ H H ?_
 rintro ⟨k,V,ss⟩ ⟨hk,hnb,hss⟩
 refine J.cc 5 H ?_
 refine J.cd H (fun p5=>?_) (fun p5=>?_)
 ·
  refine J.co 5 H ?_
  obtain ⟨e6,he6⟩:=ex_at (l:=cl) (i:=k) (by omega)
  refine O.q (Qt.ix U54 Z136 H (Src.ro 0 H) he6 H (by rfl)) H<|O.q (Qt.lea isAgg136 Z136 (Src.ro 0 H) he6 0 H (by omega) H) H<|O.l (Lo.al Y136 H) H ?_
  rintro _ _ ⟨g7,rfl,rfl⟩
  refine O.l0 (Lo.st 0 Z136 H H H H H H H) ?_
  rintro _ _ rfl
  refine O.oo 3 H<|O.q (Qt.lva 0 isAgg136 Z136 H H H) H<|O.q (Qt.lva 3 isAgg273 sizeOf273 H H H) H<|O.oo 1 H<|O.l (Lo.ca call270 (fa_Step p ttl d e6 tier lvl now dl) [] H H (.ro 1 H .nil)) H ?_
  rintro _ _ ⟨_,⟨rfl,rfl⟩,rfl⟩
  refine O.l (Lo.al Y241 H) H ?_
  rintro _ _ ⟨g9,rfl,rfl⟩
  refine O.l0 (Lo.st 0 Z241 H H H H H H H) ?_
  rintro _ _ rfl
  refine O.oo 5 H<|O.q (Qt.lv 0 A3 H H H) H<|O.oo 2 H ?_
  refine O.sd 25 H (fun p10=>?_) (fun p10=>?_)
  ·
   refine O.gz (Qt.lva 0 A241 Z241 H H H) H H<|O.gy (Lo.ca call271 (fa_none ((Nd.stepF e6 tier lvl now dl (Nd.cutT d ttl e6.to lvl now)).to) ((Nd.stepF e6 tier lvl now dl (Nd.cutT d ttl e6.to lvl now)).code) ((Nd.stepF e6 tier lvl now dl (Nd.cutT d ttl e6.to lvl now)).dl) ((Nd.stepF e6 tier lvl now dl (Nd.cutT d ttl e6.to lvl now)).bu) ((Nd.stepF e6 tier lvl now dl (Nd.cutT d ttl e6.to lvl now)).rq)) [] H H .nil) H H ?_
   rintro _ _ ⟨_,⟨rfl,rfl⟩,rfl⟩
   refine O.oc 2 H ?_
   refine J.cond H (fun h12=>?_) (fun h12=>?_)
   ·
    refine J.co 3 H<|O.q (Qt.lv 0 A3 H H H) H<|O.p (Pu.build [(0,.int .i64 ((Nd.stepF e6 tier lvl now dl (Nd.cutT d ttl e6.to lvl now)).code))] [.int .i64 ((Nd.stepF e6 tier lvl now dl (Nd.cutT d ttl e6.to lvl now)).code),Value.slice none 0 0] #[(0,1),(1,1)] runUnderlying236 Y236 (places236 underlying236) H (by kernel_rfl)) H<|O.l0 (Lo.st 5 Z236 H H H H H H H) ?_
    rintro _ _ rfl
    refine O.nil<|J.nr 241 5 (([]:List Stp).map Stp.cells) H ?_
    exact J.rn [_] [0] H ⟨⟨_,_,0,0,_,H,(Cel.var 6 H),H,(Cut.agg [.int .i64 ((Nd.stepF e6 tier lvl now dl (Nd.cutT d ttl e6.to lvl now)).code),Value.slice none 0 0] isAgg236 Z236 H H)⟩,trivial⟩ H (by (try dsimp only);rw [Nd.planS_hit hnb he6 (by simp [*])];exact ⟨_,rfl,rfl⟩)
   refine J.co 3 H<|O.q (Qt.lv 2 isAgg234 H H H) H<|O.q (Qt.lva 0 A241 Z241 H H H) H<|O.l (Lo.bm Stp.cells [Nd.stepF e6 tier lvl now dl (Nd.cutT d ttl e6.to lvl now)] U234 Z241 Y241 H H H (by kernel_rfl) H H) H ?_
   rintro V13 _ rfl
   refine O.l (Lo.am 4 underlying234 info241 H H H H H (Src.row 0 H) Stp.one (by first|omega|(simp only [List.length_append,List.length_cons,List.length_nil];rw [hss];simp only [List.length_map,List.length_take];omega)) (by first|omega|(simp only [List.length_append,List.length_cons,List.length_nil];rw [hss];simp only [List.length_map,List.length_take];omega))) H ?_
   rintro V14 _ rfl
   refine O.oo 1 H ?_
   refine O.one (Src.row 4 H) (fun hV15=>?_)
   refine O.l0 (Lo.so 3 sizeOf234 hV15 H H H H) ?_
   rintro _ _ rfl
   refine O.oo 3 H<|O.p (Pu.add' H H (by omega)) H<|O.oc 2 H ?_
   exact J.lq ⟨k+1,V14,ss++([Nd.stepF e6 tier lvl now dl (Nd.cutT d ttl e6.to lvl now)])⟩ [2,4,6,7,12,13] [3,4] [5,6] ⟨by omega,hnb.next he6 (by simp [*]),(by rw [hss];exact (Nd.steps_next he6).symm)⟩ (by dsimp only;omega) ⟨(eqi (by omega)),trivial⟩ H H
  refine O.oo 8 H<|O.q (Qt.lv 2 isAgg234 H H H) H<|O.q (Qt.lva 0 A241 Z241 H H H) H<|O.l (Lo.bm Stp.cells [Nd.stepF e6 tier lvl now dl (Nd.cutT d ttl e6.to lvl now)] U234 Z241 Y241 H H H (by kernel_rfl) H H) H ?_
  rintro V16 _ rfl
  refine O.l (Lo.am 4 underlying234 info241 H H H H H (Src.row 0 H) Stp.one (by first|omega|(simp only [List.length_append,List.length_cons,List.length_nil];rw [hss];simp only [List.length_map,List.length_take];omega)) (by first|omega|(simp only [List.length_append,List.length_cons,List.length_nil];rw [hss];simp only [List.length_map,List.length_take];omega))) H ?_
  rintro V17 _ rfl
  refine O.oo 1 H ?_
  refine O.one (Src.row 4 H) (fun hV18=>?_)
  refine O.l0 (Lo.so 3 sizeOf234 hV18 H H H H) ?_
  rintro _ _ rfl
  refine O.oo 3 H<|O.p (Pu.add' H H (by omega)) H<|O.oc 2 H ?_
  exact J.lq ⟨k+1,V17,ss++([Nd.stepF e6 tier lvl now dl (Nd.cutT d ttl e6.to lvl now)])⟩ [2,4,6,7,12,13] [3,4] [5,6] ⟨by omega,hnb.next he6 (by simp [*]),(by rw [hss];exact (Nd.steps_next he6).symm)⟩ (by dsimp only;omega) ⟨(eqi (by omega)),trivial⟩ H H
 refine J.co 3 H<|O.q (Qt.lva 0 isAgg236 Z236 H H H) H ?_
 refine O.one (Src.row 1 H) (fun hV19=>?_)
 refine O.l0 (Lo.st 3 Z236 H H H H H (by simp only [List.all_cons,List.all_nil,Bool.and_true,hV19]<;>rfl) H) ?_
 rintro _ _ rfl
 refine O.nil ?_
 exact J.rn [_] [1] H ⟨⟨_,_,0,0,_,H,(Cel.var 3 H),H,(Cut.agg [.int .i64 0,V] isAgg236 Z236 H H)⟩,trivial⟩ H (by (try dsimp only);rw [Nd.planS_all hnb (by omega),←Nd.steps_all (k:=k) (by omega),←hss];exact ⟨_,rfl,rfl⟩)
end Go.Proofs.YtohjlkjhpibkmaaGreatDoor
