/-
  Rules and plain laws that the walks use.
-/
import Derived.KernelRfl
import Derived.Test.YtohjlkjhpibkmaaGreatDoorD25
import Derived.Test.YtohjlkjhpibkmaaGreatDoorD24
set_option linter.unusedSimpArgs false
set_option linter.unusedVariables false
namespace Go.Proofs.YtohjlkjhpibkmaaGreatDoor
open Go Go.LK Go.Proofs.Tryz
set_option maxRecDepth 100000
set_option maxHeartbeats 4000000
theorem wt_TakeY (p:Nat) (s:Ws) (x:List Pr) (hR:Wt.Rep x s) (c j:Int) (hj:Wt.jobOf x c=some j):Tri prog 94 #[.pointer (some ⟨p,0,none⟩),.int .i64 c] [] [wt 195 p s] (fun v L'=>v=.tuple #[.int .i64 j,.bool true]∧∃ s',Wt.Rep (Wt.without x c) s'∧L'=[wt 195 p s']):=by
 have h_:=wt_Take p s x hR c
 rw [hj] at h_;exact h_
theorem wt_TakeN (p:Nat) (s:Ws) (x:List Pr) (hR:Wt.Rep x s) (c:Int) (hj:Wt.jobOf x c=none):Tri prog 94 #[.pointer (some ⟨p,0,none⟩),.int .i64 c] [] [wt 195 p s] (fun v L'=>v=.tuple #[.int .i64 0,.bool false]∧∃ s',Wt.Rep (Wt.without x c) s'∧L'=[wt 195 p s']):=by
 have h_:=wt_Take p s x hR c
 rw [hj] at h_;exact h_
theorem nw_Rep1 (t gn gr:Nat) (N:Nd.Nc) (Z:Nd.Sx) (n:Nat) (rid fr to code thr ep tier:Int) (hN:N.Ok) (hS:Z.Ok N) (hlt:Z.Lt n) (hn:n≤9000):Tri prog 90 #[.pointer (some ⟨t,0,none⟩),.pointer (some ⟨gr,0,none⟩),.pointer (some ⟨gn,0,none⟩)] [var gr [.int .i64 rid,.int .i64 fr,.int .i64 to,.int .i64 code,.int .i64 thr,.int .i64 ep,.int .i64 tier] 43,var gn [.pointer (some ⟨N.n,0,none⟩)] 29,var 1 (Nd.rnames.map vS) 348] (tlA N t (.slice none 0 0) (.slice none 0 0) [] []++ndA N Z) (fun v L'=>OutC N t (fun S' es fs e=>S'.Ok N∧S'.Lt (n+1)∧Nd.RepR N Z rid fr to code thr ep tier S' es fs e) v L'):=by
 refine Tri.en func90 H ntmps90 H fun w0=>J.cc 6 H<|J.drawHead 16 Tryz.mixed (by kernel_rfl)<|Hd.q (Qt.lwa 0 isAgg43 Z43 H H H) H<|Hd.call (vs:=[.agg #[.int .i64 rid,.int .i64 fr,.int .i64 to,.int .i64 code,.int .i64 thr,.int .i64 ep,.int .i64 tier]]) (caps:=[]) (by exact call91) H H (rp_Check rid fr to code thr ep tier) (fun _ _ h=>h) (RoOk.ro 2 H [] H RoOk.nil) H<|Hd.p (Pu.neq H H) H<|Hd.p (Pu.move H) H ?_
 refine by_bool (decide ((if Nd.okR rid fr to code thr ep tier=true then (0:Int) else 1)≠0)) (fun h1=>?_) (fun h1=>?_)
 ·
  have p2:=of_decide_eq_true h1
  refine Hd.gskip (t:=10) H H (no_bool (by rw [h1];decide)) H H<|Hd.gskip (t:=10) H H (no_bool (by rw [h1];decide)) H H<|Hd.gskip (t:=10) H H (no_bool (by rw [h1];decide)) H H<|Hd.gskip (t:=10) H H (no_bool (by rw [h1];decide)) H H<|Hd.gskip (t:=10) H H (no_bool (by rw [h1];decide)) H H<|Hd.gskip (t:=10) H H (no_bool (by rw [h1];decide)) H H<|Hd.gskip (t:=10) H H (no_bool (by rw [h1];decide)) H H<|Hd.p (Pu.pickT H h1 H) H<|Hd.p (Pu.move H) H<|Hd.gskip (t:=19) H H (no_bool (by decide)) H H<|Hd.gskip (t:=19) H H (no_bool (by decide)) H H<|Hd.gskip (t:=19) H H (no_bool (by decide)) H H<|Hd.nil<|O.oc 9 H ?_
  exact J.r1 [0,1,2,3,4,5,6,7,8,9,10,11,12,13] H H H ⟨(⟨Z.now,Z.ver,Z.many,Z.calls,Z.k,Z.sn,Z.q,Z.ps,Z.jm,Z.ws,Z.wl,Z.d⟩:Nd.Sx),_,_,([]:List Ev),([]:List Fr),1,⟨⟨hS.k,hS.sn,hS.q,hS.i,hS.ids,hS.n0,hS.n1,hS.m0,hS.c0⟩,⟨by have h_:=hlt.m;dsimp only;omega,by have h_:=hlt.c;dsimp only;omega,by have h_:=hlt.w;dsimp only;omega,by omega⟩,.inl ⟨(by clear hS hlt;simp_all),H,H,H,H⟩⟩,H,H⟩
 have p3:=of_decide_eq_false h1
 refine Hd.gq (t:=10) H H h1 H (Pu.qt (Pu.fieldAddr (off':=2) U43 H Z3 H H H)) H<|Hd.gq (t:=10) H H h1 H (Qt.lw 0 A3 H H H) H<|Hd.gq (t:=10) H H h1 H (Qt.lw 1 A29 H H H) H<|Hd.gq (t:=10) H H h1 H (Pu.qt (Pu.nilCheck H)) H<|Hd.gq (t:=10) H H h1 H (Pu.qt (Pu.fieldAddr (off':=6) U90 H Z3 H H H)) H<|Hd.gq (t:=10) H H h1 H (Qt.lv 3 A3 H H H) H<|Hd.gq (t:=10) H H h1 H (Pu.qt (Pu.neq H H)) H<|Hd.p (Pu.pickF H h1 H) H<|Hd.p (Pu.move H) H ?_
 refine by_bool (decide (to≠N.self)) (fun h4=>?_) (fun h4=>?_)
 ·
  have p5:=of_decide_eq_true h4
  refine Hd.gskip (t:=19) H H (no_bool (by rw [h4];decide)) H H<|Hd.gskip (t:=19) H H (no_bool (by rw [h4];decide)) H H<|Hd.gskip (t:=19) H H (no_bool (by rw [h4];decide)) H H<|Hd.nil<|O.kt 19 H h4<|O.oc 9 H ?_
  exact J.r1 [0,1,2,3,4,5,6,7,8,9,10,11,12,13] H H H ⟨(⟨Z.now,Z.ver,Z.many,Z.calls,Z.k,Z.sn,Z.q,Z.ps,Z.jm,Z.ws,Z.wl,Z.d⟩:Nd.Sx),_,_,([]:List Ev),([]:List Fr),1,⟨⟨hS.k,hS.sn,hS.q,hS.i,hS.ids,hS.n0,hS.n1,hS.m0,hS.c0⟩,⟨by have h_:=hlt.m;dsimp only;omega,by have h_:=hlt.c;dsimp only;omega,by have h_:=hlt.w;dsimp only;omega,by omega⟩,.inl ⟨(by clear hS hlt;simp_all),H,H,H,H⟩⟩,H,H⟩
 have p6:=of_decide_eq_false h4
 refine Hd.gq (t:=19) H H h4 H (Qt.lw 1 A29 H H H) H<|Hd.gq (t:=19) H H h4 H (Pu.qt (Pu.fieldAddr (off':=1) U43 H Z3 H H H)) H<|Hd.gq (t:=19) H H h4 H (Qt.lw 0 A3 H H H) H<|Hd.nil<|O.kf 19 H h4<|O.gy (Lo.ca call92 (nw_isS N Z.now Z.ver Z.many Z.calls fr) [] H H (.own 3 H H (.of 13 row_rd H H .nil))) H H ?_
 rintro _ _ ⟨_,⟨rfl,rfl⟩,rfl⟩
 refine O.oc 3 H ?_
 refine J.cond H (fun h8=>?_) (fun h8=>?_)
 ·
  have h9:(Nd.isS N fr)=false:=not_flip h8
  refine J.cc 4 H ?_
  exact J.r1 [0,1,2,3,4,5,6,7,8,9,10,11,12,13] H H H ⟨(⟨Z.now,Z.ver,Z.many,Z.calls,Z.k,Z.sn,Z.q,Z.ps,Z.jm,Z.ws,Z.wl,Z.d⟩:Nd.Sx),_,_,([]:List Ev),([]:List Fr),1,⟨⟨hS.k,hS.sn,hS.q,hS.i,hS.ids,hS.n0,hS.n1,hS.m0,hS.c0⟩,⟨by have h_:=hlt.m;dsimp only;omega,by have h_:=hlt.c;dsimp only;omega,by have h_:=hlt.w;dsimp only;omega,by omega⟩,.inl ⟨(by clear hS hlt;simp_all),H,H,H,H⟩⟩,H,H⟩
 have h10:(Nd.isS N fr)=true:=not_flip h8
 refine J.cc 3 H<|J.drawTail 14 Tryz.mixed (by kernel_rfl)<|S.q (Qt.lw 1 A29 H H H) H<|S.r 2 H<|S.q (Qt.lv 3 isAgg88 H H H) H<|S.r 1 H<|S.q (Qt.lw 0 A3 H H H) H<|S.r 1 H<|S.q (Qt.lw 0 A3 H H H) H<|S.r 1 H<|S.q (Qt.lw 0 A3 H H H) H<|S.q (Qt.lw 1 A29 H H H) H<|S.r 2 H<|S.q (Qt.lv 3 A3 H H H) H<|S.endO<|O.l (Lo.ca call93 (tb_Learn N.tb N.ttl Z.d fr thr ep Z.now) [11] H H .nil) H ?_
 rintro _ _ ⟨_,⟨d11,hd12,rfl,rfl⟩,rfl⟩
 refine O.nil ?_
 refine J.cond H (fun h14=>?_) (fun h14=>?_)
 ·
  refine J.co 3 H<|O.q (Qt.lw 0 A3 H H H) H<|O.oo 1 H<|O.q (Qt.lw 0 A3 H H H) H<|O.oo 1 H<|O.q (Qt.lw 0 A3 H H H) H<|O.l (Lo.ca C80 (te_event N Z.now Z.ver Z.many Z.calls t (Value.slice none 0 0) (Value.slice none 0 0) ([]:List Ev) 8 ep 0 fr thr (by first|omega|(simp only [List.length_append,List.length_cons,List.length_nil];omega))) [1,2] H H (.own 4 H H .nil)) H ?_
  rintro _ _ ⟨_,⟨E15,rfl,rfl⟩,rfl⟩
  refine O.oc 2 H ?_
  refine by_bool ((Wt.jobOf Z.wl rid).isSome) (fun h17=>?_) (fun h17=>?_)
  ·
   obtain ⟨jid,hjo⟩:=Option.isSome_iff_exists.1 h17
   obtain ⟨j,hg,rfl⟩:=hS.i.job hjo
   refine J.dm [(0,false),(1,false),(2,false),(3,false),(4,false),(5,false),(6,true),(7,false),(8,false),(9,false),(10,false),(11,false)] [4] Tryz.mixed (by kernel_rfl) H<|Mx.q H (Qt.lw 1 A29 H H H) H<|Mx.r 2 H<|Mx.q H (Qt.lv 0 A87 H H H) H<|Mx.r 1 H<|Mx.q H (Qt.lw 0 A3 H H H) H<|Mx.l H (Lo.ca call94 (wt_TakeY N.w Z.ws Z.wl hS.i.r rid j.x.id hjo) [10] H H .nil) H ?_
   rintro _ _ ⟨_,⟨rfl,ws18,hr19,rfl⟩,rfl⟩
   refine MxK.gp [5] [0] H H<|Mx.r 5 H<|Mx.nil<|J.seq<|J.drawHead 9 Tryz.mixed (by kernel_rfl)<|Hd.p (Pu.move H) H<|Hd.p (Pu.fieldAddr (off':=0) U43 H Z3 H H H) H<|Hd.q (Qt.lw 0 A3 H H H) H<|Hd.p (Pu.fieldAddr (off':=3) U43 H Z3 H H H) H<|Hd.q (Qt.lw 0 A3 H H H) H<|Hd.p (Pu.fieldAddr (off':=1) U43 H Z3 H H H) H<|Hd.q (Qt.lw 0 A3 H H H) H<|Hd.p (Pu.move H) H<|Hd.call (vs:=[.bool true]) (caps:=[]) (by exact call95) H H (nd_bit true) (fun _ _ h=>h) RoOk.nil H<|Hd.nil<|O.l (Lo.ca C80 (te_event N Z.now Z.ver Z.many Z.calls t E15 (Value.slice none 0 0) (([]:List Ev)++[(⟨8,Z.now,N.self,ep,0,fr,thr⟩:Ev)]) 7 rid code fr (if true=true then (1:Int) else 0) (by first|omega|(simp only [List.length_append,List.length_cons,List.length_nil];omega))) [1,2] H H (.own 5 H H .nil)) H ?_
   rintro _ _ ⟨_,⟨E21,rfl,rfl⟩,rfl⟩
   refine O.oo 10 H<|O.q (Qt.lwa 0 isAgg43 Z43 H H H) H<|O.l (Lo.ca call96 (te_heard N Z.now Z.ver Z.many Z.calls Z.k t E21 (Value.slice none 0 0) ((([]:List Ev)++[(⟨8,Z.now,N.self,ep,0,fr,thr⟩:Ev)])++[(⟨7,Z.now,N.self,rid,code,fr,if true=true then (1:Int) else 0⟩:Ev)]) ([]:List Fr) Z.q Z.ps Z.jm ws18 (Wt.without Z.wl rid) j rid fr to code thr ep tier hN hS.k hS.q (hS.i.less hr19) hS.ids hg (by first|omega|(simp only [List.length_append,List.length_cons,List.length_nil];omega)) (by first|omega|(simp only [List.length_append,List.length_cons,List.length_nil];omega))) [0,1,4,6,7,8,9,10,2] H H (.own 5 H H .nil)) H ?_
   rintro _ _ ⟨_,⟨k23,q24,ps25,jm26,ws27,wl28,E29,F30,es31,fs32,rfl,hk33,hsm34,hq35,hin36,hwl37,hhr38,rfl⟩,rfl⟩
   refine O.oc 5 H ?_
   exact J.r1 [0,1,2,10,3,4,5,6,7,8,11,9,12,13] H H H ⟨(⟨Z.now,Z.ver,Z.many,Z.calls,k23,Z.sn,q24,ps25,jm26,ws27,wl28,d11⟩:Nd.Sx),_,_,es31,fs32,0,⟨⟨hk33,hS.sn,hq35,hin36,hhr38.ids hS.ids,hS.n0,hS.n1,hS.m0,hS.c0⟩,⟨by have h_:=hlt.m;dsimp only;omega,by have h_:=hlt.c;dsimp only;omega,by have h_:=hlt.w;have h2_:=hwl37;have h3_:=Wt.without_len (l:=Z.wl) (c:=rid);dsimp only;omega,by omega⟩,.inr ⟨(by clear hS hlt;simp_all),H,⟨H,H,hsm34⟩,H,(([]:List Ev)++[(⟨8,Z.now,N.self,ep,0,fr,thr⟩:Ev)])++[(⟨7,Z.now,N.self,rid,code,fr,if true=true then (1:Int) else 0⟩:Ev)],_,⟨[⟨8,Z.now,N.self,ep,0,fr,thr⟩],H,.inr H⟩,.inr ⟨_,j,hg,hhr38⟩⟩⟩,H,H⟩
  have hjo:Wt.jobOf Z.wl rid=none:=by simpa using h17
  refine J.dm [(0,false),(1,false),(2,false),(3,false),(4,false),(5,false),(6,true),(7,false),(8,false),(9,false),(10,false),(11,false)] [4] Tryz.mixed (by kernel_rfl) H<|Mx.q H (Qt.lw 1 A29 H H H) H<|Mx.r 2 H<|Mx.q H (Qt.lv 0 A87 H H H) H<|Mx.r 1 H<|Mx.q H (Qt.lw 0 A3 H H H) H<|Mx.l H (Lo.ca call94 (wt_TakeN N.w Z.ws Z.wl hS.i.r rid hjo) [10] H H .nil) H ?_
  rintro _ _ ⟨_,⟨rfl,ws40,hr41,rfl⟩,rfl⟩
  refine MxK.gp [5] [0] H H<|Mx.r 5 H<|Mx.nil<|J.seq<|J.drawHead 9 Tryz.mixed (by kernel_rfl)<|Hd.p (Pu.move H) H<|Hd.p (Pu.fieldAddr (off':=0) U43 H Z3 H H H) H<|Hd.q (Qt.lw 0 A3 H H H) H<|Hd.p (Pu.fieldAddr (off':=3) U43 H Z3 H H H) H<|Hd.q (Qt.lw 0 A3 H H H) H<|Hd.p (Pu.fieldAddr (off':=1) U43 H Z3 H H H) H<|Hd.q (Qt.lw 0 A3 H H H) H<|Hd.p (Pu.move H) H<|Hd.call (vs:=[.bool false]) (caps:=[]) (by exact call95) H H (nd_bit false) (fun _ _ h=>h) RoOk.nil H<|Hd.nil<|O.l (Lo.ca C80 (te_event N Z.now Z.ver Z.many Z.calls t E15 (Value.slice none 0 0) (([]:List Ev)++[(⟨8,Z.now,N.self,ep,0,fr,thr⟩:Ev)]) 7 rid code fr (if false=true then (1:Int) else 0) (by first|omega|(simp only [List.length_append,List.length_cons,List.length_nil];omega))) [1,2] H H (.own 5 H H .nil)) H ?_
  rintro _ _ ⟨_,⟨E43,rfl,rfl⟩,rfl⟩
  refine O.oc 12 H ?_
  exact J.r1 [0,1,4,5,6,7,8,9,10,2,11,3,12,13] H H H ⟨(⟨Z.now,Z.ver,Z.many,Z.calls,Z.k,Z.sn,Z.q,Z.ps,Z.jm,ws40,Wt.without Z.wl rid,d11⟩:Nd.Sx),_,_,(([]:List Ev)++[(⟨8,Z.now,N.self,ep,0,fr,thr⟩:Ev)])++[(⟨7,Z.now,N.self,rid,code,fr,if false=true then (1:Int) else 0⟩:Ev)],([]:List Fr),0,⟨⟨hS.k,hS.sn,hS.q,hS.i.less hr41,hS.ids,hS.n0,hS.n1,hS.m0,hS.c0⟩,⟨by have h_:=hlt.m;dsimp only;omega,by have h_:=hlt.c;dsimp only;omega,by have h_:=hlt.w;have h3_:=Wt.without_len (l:=Z.wl) (c:=rid);dsimp only;omega,by omega⟩,.inr ⟨(by clear hS hlt;simp_all),H,⟨H,H,.refl _⟩,H,(([]:List Ev)++[(⟨8,Z.now,N.self,ep,0,fr,thr⟩:Ev)])++[(⟨7,Z.now,N.self,rid,code,fr,if false=true then (1:Int) else 0⟩:Ev)],_,⟨[⟨8,Z.now,N.self,ep,0,fr,thr⟩],H,.inr H⟩,.inl ⟨H,H,H,H,H⟩⟩⟩,H,H⟩
 refine J.cc 2 H ?_
 refine by_bool ((Wt.jobOf Z.wl rid).isSome) (fun h45=>?_) (fun h45=>?_)
 ·
  obtain ⟨jid,hjo⟩:=Option.isSome_iff_exists.1 h45
  obtain ⟨j,hg,rfl⟩:=hS.i.job hjo
  refine J.dm [(0,false),(1,false),(2,false),(3,false),(4,false),(5,false),(6,true),(7,false),(8,false),(9,false),(10,false),(11,false)] [4] Tryz.mixed (by kernel_rfl) H<|Mx.q H (Qt.lw 1 A29 H H H) H<|Mx.r 2 H<|Mx.q H (Qt.lv 0 A87 H H H) H<|Mx.r 1 H<|Mx.q H (Qt.lw 0 A3 H H H) H<|Mx.l H (Lo.ca call94 (wt_TakeY N.w Z.ws Z.wl hS.i.r rid j.x.id hjo) [10] H H .nil) H ?_
  rintro _ _ ⟨_,⟨rfl,ws46,hr47,rfl⟩,rfl⟩
  refine MxK.gp [5] [0] H H<|Mx.r 5 H<|Mx.nil<|J.seq<|J.drawHead 9 Tryz.mixed (by kernel_rfl)<|Hd.p (Pu.move H) H<|Hd.p (Pu.fieldAddr (off':=0) U43 H Z3 H H H) H<|Hd.q (Qt.lw 0 A3 H H H) H<|Hd.p (Pu.fieldAddr (off':=3) U43 H Z3 H H H) H<|Hd.q (Qt.lw 0 A3 H H H) H<|Hd.p (Pu.fieldAddr (off':=1) U43 H Z3 H H H) H<|Hd.q (Qt.lw 0 A3 H H H) H<|Hd.p (Pu.move H) H<|Hd.call (vs:=[.bool true]) (caps:=[]) (by exact call95) H H (nd_bit true) (fun _ _ h=>h) RoOk.nil H<|Hd.nil<|O.l (Lo.ca C80 (te_event N Z.now Z.ver Z.many Z.calls t (Value.slice none 0 0) (Value.slice none 0 0) ([]:List Ev) 7 rid code fr (if true=true then (1:Int) else 0) (by first|omega|(simp only [List.length_append,List.length_cons,List.length_nil];omega))) [2,3] H H (.own 5 H H .nil)) H ?_
  rintro _ _ ⟨_,⟨E49,rfl,rfl⟩,rfl⟩
  refine O.oo 10 H<|O.q (Qt.lwa 0 isAgg43 Z43 H H H) H<|O.l (Lo.ca call96 (te_heard N Z.now Z.ver Z.many Z.calls Z.k t E49 (Value.slice none 0 0) (([]:List Ev)++[(⟨7,Z.now,N.self,rid,code,fr,if true=true then (1:Int) else 0⟩:Ev)]) ([]:List Fr) Z.q Z.ps Z.jm ws46 (Wt.without Z.wl rid) j rid fr to code thr ep tier hN hS.k hS.q (hS.i.less hr47) hS.ids hg (by first|omega|(simp only [List.length_append,List.length_cons,List.length_nil];omega)) (by first|omega|(simp only [List.length_append,List.length_cons,List.length_nil];omega))) [0,1,4,6,7,8,9,10,2] H H (.own 5 H H .nil)) H ?_
  rintro _ _ ⟨_,⟨k51,q52,ps53,jm54,ws55,wl56,E57,F58,es59,fs60,rfl,hk61,hsm62,hq63,hin64,hwl65,hhr66,rfl⟩,rfl⟩
  refine O.oc 5 H ?_
  exact J.r1 [0,1,2,10,3,4,5,6,7,8,11,9,12,13] H H H ⟨(⟨Z.now,Z.ver,Z.many,Z.calls,k51,Z.sn,q52,ps53,jm54,ws55,wl56,d11⟩:Nd.Sx),_,_,es59,fs60,0,⟨⟨hk61,hS.sn,hq63,hin64,hhr66.ids hS.ids,hS.n0,hS.n1,hS.m0,hS.c0⟩,⟨by have h_:=hlt.m;dsimp only;omega,by have h_:=hlt.c;dsimp only;omega,by have h_:=hlt.w;have h2_:=hwl65;have h3_:=Wt.without_len (l:=Z.wl) (c:=rid);dsimp only;omega,by omega⟩,.inr ⟨(by clear hS hlt;simp_all),H,⟨H,H,hsm62⟩,H,([]:List Ev)++[(⟨7,Z.now,N.self,rid,code,fr,if true=true then (1:Int) else 0⟩:Ev)],_,⟨[],H,.inl H⟩,.inr ⟨_,j,hg,hhr66⟩⟩⟩,H,H⟩
 have hjo:Wt.jobOf Z.wl rid=none:=by simpa using h45
 refine J.dm [(0,false),(1,false),(2,false),(3,false),(4,false),(5,false),(6,true),(7,false),(8,false),(9,false),(10,false),(11,false)] [4] Tryz.mixed (by kernel_rfl) H<|Mx.q H (Qt.lw 1 A29 H H H) H<|Mx.r 2 H<|Mx.q H (Qt.lv 0 A87 H H H) H<|Mx.r 1 H<|Mx.q H (Qt.lw 0 A3 H H H) H<|Mx.l H (Lo.ca call94 (wt_TakeN N.w Z.ws Z.wl hS.i.r rid hjo) [10] H H .nil) H ?_
 rintro _ _ ⟨_,⟨rfl,ws68,hr69,rfl⟩,rfl⟩
 refine MxK.gp [5] [0] H H<|Mx.r 5 H<|Mx.nil<|J.seq<|J.drawHead 9 Tryz.mixed (by kernel_rfl)<|Hd.p (Pu.move H) H<|Hd.p (Pu.fieldAddr (off':=0) U43 H Z3 H H H) H<|Hd.q (Qt.lw 0 A3 H H H) H<|Hd.p (Pu.fieldAddr (off':=3) U43 H Z3 H H H) H<|Hd.q (Qt.lw 0 A3 H H H) H<|Hd.p (Pu.fieldAddr (off':=1) U43 H Z3 H H H) H<|Hd.q (Qt.lw 0 A3 H H H) H<|Hd.p (Pu.move H) H<|Hd.call (vs:=[.bool false]) (caps:=[]) (by exact call95) H H (nd_bit false) (fun _ _ h=>h) RoOk.nil H<|Hd.nil<|O.l (Lo.ca C80 (te_event N Z.now Z.ver Z.many Z.calls t (Value.slice none 0 0) (Value.slice none 0 0) ([]:List Ev) 7 rid code fr (if false=true then (1:Int) else 0) (by first|omega|(simp only [List.length_append,List.length_cons,List.length_nil];omega))) [2,3] H H (.own 5 H H .nil)) H ?_
 rintro _ _ ⟨_,⟨E71,rfl,rfl⟩,rfl⟩
 refine O.oc 12 H ?_
 exact J.r1 [0,1,4,5,6,7,8,9,10,2,11,3,12,13] H H H ⟨(⟨Z.now,Z.ver,Z.many,Z.calls,Z.k,Z.sn,Z.q,Z.ps,Z.jm,ws68,Wt.without Z.wl rid,d11⟩:Nd.Sx),_,_,([]:List Ev)++[(⟨7,Z.now,N.self,rid,code,fr,if false=true then (1:Int) else 0⟩:Ev)],([]:List Fr),0,⟨⟨hS.k,hS.sn,hS.q,hS.i.less hr69,hS.ids,hS.n0,hS.n1,hS.m0,hS.c0⟩,⟨by have h_:=hlt.m;dsimp only;omega,by have h_:=hlt.c;dsimp only;omega,by have h_:=hlt.w;have h3_:=Wt.without_len (l:=Z.wl) (c:=rid);dsimp only;omega,by omega⟩,.inr ⟨(by clear hS hlt;simp_all),H,⟨H,H,.refl _⟩,H,([]:List Ev)++[(⟨7,Z.now,N.self,rid,code,fr,if false=true then (1:Int) else 0⟩:Ev)],_,⟨[],H,.inl H⟩,.inl ⟨H,H,H,H,H⟩⟩⟩,H,H⟩
theorem nw_Pus1 (t gn gr:Nat) (N:Nd.Nc) (Z:Nd.Sx) (n:Nat) (to ver k0 k1 k2 k3 k4 k5 k6:Int) (hN:N.Ok) (hS:Z.Ok N) (hlt:Z.Lt n) (hn:n≤9000):Tri prog 97 #[.pointer (some ⟨t,0,none⟩),.pointer (some ⟨gr,0,none⟩),.pointer (some ⟨gn,0,none⟩)] [var gr [.int .i64 to,.int .i64 ver,.int .i64 k0,.int .i64 k1,.int .i64 k2,.int .i64 k3,.int .i64 k4,.int .i64 k5,.int .i64 k6] 47,var gn [.pointer (some ⟨N.n,0,none⟩)] 29,var 0 (Nd.widths.map vI) 282] (tlA N t (.slice none 0 0) (.slice none 0 0) [] []++ndA N Z) (fun v L'=>OutC N t (fun S' es fs e=>S'.Ok N∧S'.Lt (n+1)∧Nd.PusR N Z to ver [k0,k1,k2,k3,k4,k5,k6] S' es fs e) v L'):=by
 refine Tri.en func97 H ntmps97 H fun w0=>J.cc 6 H<|J.drawHead 12 Tryz.mixed (by kernel_rfl)<|Hd.q (Qt.lwa 0 isAgg47 sizeOf47 H H H) H<|Hd.call (vs:=[.agg #[.int .i64 to,.int .i64 ver,.int .i64 k0,.int .i64 k1,.int .i64 k2,.int .i64 k3,.int .i64 k4,.int .i64 k5,.int .i64 k6]]) (caps:=[]) (by exact call98) H H (pu_Check to ver k0 k1 k2 k3 k4 k5 k6) (fun _ _ h=>h) (RoOk.ro 2 H [] H RoOk.nil) H<|Hd.p (Pu.neq H H) H<|Hd.p (Pu.move H) H ?_
 refine by_bool (decide ((if Nd.okP to [to,ver,k0,k1,k2,k3,k4,k5,k6]=true then (0:Int) else 1)≠0)) (fun h1=>?_) (fun h1=>?_)
 ·
  have p2:=of_decide_eq_true h1
  refine Hd.gskip (t:=9) H H (no_bool (by rw [h1];decide)) H H<|Hd.gskip (t:=9) H H (no_bool (by rw [h1];decide)) H H<|Hd.gskip (t:=9) H H (no_bool (by rw [h1];decide)) H H<|Hd.gskip (t:=9) H H (no_bool (by rw [h1];decide)) H H<|Hd.gskip (t:=9) H H (no_bool (by rw [h1];decide)) H H<|Hd.gskip (t:=9) H H (no_bool (by rw [h1];decide)) H H<|Hd.gskip (t:=9) H H (no_bool (by rw [h1];decide)) H H<|Hd.p (Pu.pickT H h1 H) H<|Hd.nil<|O.oc 6 H ?_
  exact J.r1 [0,1,2,3,4,5,6,7,8,9,10,11,12,13] H H H ⟨(⟨Z.now,Z.ver,Z.many,Z.calls,Z.k,Z.sn,Z.q,Z.ps,Z.jm,Z.ws,Z.wl,Z.d⟩:Nd.Sx),_,_,([]:List Ev),([]:List Fr),1,⟨⟨hS.k,hS.sn,hS.q,hS.i,hS.ids,hS.n0,hS.n1,hS.m0,hS.c0⟩,⟨by have h_:=hlt.m;dsimp only;omega,by have h_:=hlt.c;dsimp only;omega,by have h_:=hlt.w;dsimp only;omega,by omega⟩,.inl ⟨(by clear hS hlt;simp_all),H,H,H,H⟩⟩,H,H⟩
 have p3:=of_decide_eq_false h1
 refine Hd.gq (t:=9) H H h1 H (Pu.qt (Pu.fieldAddr (off':=0) U47 H Z3 H H H)) H<|Hd.gq (t:=9) H H h1 H (Qt.lw 0 A3 H H H) H<|Hd.gq (t:=9) H H h1 H (Qt.lw 1 A29 H H H) H<|Hd.gq (t:=9) H H h1 H (Pu.qt (Pu.nilCheck H)) H<|Hd.gq (t:=9) H H h1 H (Pu.qt (Pu.fieldAddr (off':=6) U90 H Z3 H H H)) H<|Hd.gq (t:=9) H H h1 H (Qt.lv 3 A3 H H H) H<|Hd.gq (t:=9) H H h1 H (Pu.qt (Pu.neq H H)) H<|Hd.p (Pu.pickF H h1 H) H<|Hd.nil<|O.nil ?_
 refine J.cd H (fun p4=>?_) (fun p4=>?_)
 ·
  refine J.cc 4 H ?_
  exact J.r1 [0,1,2,3,4,5,6,7,8,9,10,11,12,13] H H H ⟨(⟨Z.now,Z.ver,Z.many,Z.calls,Z.k,Z.sn,Z.q,Z.ps,Z.jm,Z.ws,Z.wl,Z.d⟩:Nd.Sx),_,_,([]:List Ev),([]:List Fr),1,⟨⟨hS.k,hS.sn,hS.q,hS.i,hS.ids,hS.n0,hS.n1,hS.m0,hS.c0⟩,⟨by have h_:=hlt.m;dsimp only;omega,by have h_:=hlt.c;dsimp only;omega,by have h_:=hlt.w;dsimp only;omega,by omega⟩,.inl ⟨(by clear hS hlt;simp_all),H,H,H,H⟩⟩,H,H⟩
 refine J.cc 2 H<|J.drawHead 13 Tryz.mixed (by kernel_rfl)<|Hd.q (Qt.lwa 0 isAgg47 sizeOf47 H H H) H<|Hd.q (Qt.lw 1 A29 H H H) H<|Hd.p (Pu.nilCheck H) H<|Hd.p (Pu.fieldAddr (off':=22) U90 H Z3 H H H) H<|Hd.q (Qt.lv 3 A3 H H H) H<|Hd.call (vs:=[.agg #[.int .i64 to,.int .i64 ver,.int .i64 k0,.int .i64 k1,.int .i64 k2,.int .i64 k3,.int .i64 k4,.int .i64 k5,.int .i64 k6],.int .i64 Z.ver]) (caps:=[]) (by exact call99) H H (pu_Later to ver k0 k1 k2 k3 k4 k5 k6 Z.ver) (fun _ _ h=>h) RoOk.nil H<|Hd.p (Pu.move H) H ?_
 refine by_bool (decide (Z.ver < ver)) (fun h5=>?_) (fun h5=>?_)
 ·
  have p6:=of_decide_eq_true h5
  refine Hd.gq (t:=24) H H h5 H (Qt.lw 1 A29 H H H) H<|Hd.gq (t:=24) H H h5 H (Pu.qt (Pu.nilCheck H)) H<|Hd.gq (t:=24) H H h5 H (Pu.qt (Pu.fieldAddr (off':=0) U90 H sizeOf82 H H H)) H<|Hd.gq (t:=24) H H h5 H (Qt.lv 3 A82 H H H) H<|Hd.gq (t:=24) H H h5 H (Pu.qt (Pu.fieldAddr (off':=2) U47 H Z45 H H H)) H<|Hd.gq (t:=24) H H h5 H (Qt.lwa 0 A45 Z45 H H H) H<|Hd.nil<|O.kt 24 H h5<|O.gy (Lo.ca call100 (ct_Push N Z.k k0 k1 k2 k3 k4 k5 k6 hS.k) [4] H H .nil) H H ?_
  rintro _ _ ⟨_,⟨k7,hk8,hsm9,rfl,rfl⟩,rfl⟩
  refine O.oc 9 H ?_
  refine J.cd H (fun p11=>?_) (fun p11=>?_)
  ·
   refine J.region<|O.q (Qt.lw 1 A29 H H H) H<|O.oo 1 H<|O.q (Qt.lw 0 A3 H H H) H<|O.oo 2 H<|O.l0 (Lo.st 4 Z3 H H H H H H H) ?_
   rintro _ _ rfl
   refine O.oc 2 H<|J.drawHead 5 Tryz.mixed (by kernel_rfl)<|Hd.p (Pu.move H) H<|Hd.p (Pu.fieldAddr (off':=1) U47 H Z3 H H H) H<|Hd.q (Qt.lw 0 A3 H H H) H<|Hd.p (Pu.move H) H<|Hd.call (vs:=[.bool (decide ((Kn.check [k0,k1,k2,k3,k4,k5,k6] N.lev)=0))]) (caps:=[]) (by exact call95) H H (nd_bit (decide ((Kn.check [k0,k1,k2,k3,k4,k5,k6] N.lev)=0))) (fun _ _ h=>h) RoOk.nil H<|Hd.nil<|O.l (Lo.ca C80 (te_event N Z.now ver Z.many Z.calls t (Value.slice none 0 0) (Value.slice none 0 0) ([]:List Ev) 10 ver (if (decide ((Kn.check [k0,k1,k2,k3,k4,k5,k6] N.lev)=0))=true then (1:Int) else 0) 0 0 (by first|omega|(simp only [List.length_append,List.length_cons,List.length_nil];omega))) [1,2] H H (.own 4 H H .nil)) H ?_
   rintro _ _ ⟨_,⟨E12,rfl,rfl⟩,rfl⟩
   refine O.oc 5 H ?_
   exact J.r1 [0,1,3,4,2,5,6,7,8,9,10,11,12,13] H H H ⟨(⟨Z.now,ver,Z.many,Z.calls,k7,Z.sn,Z.q,Z.ps,Z.jm,Z.ws,Z.wl,Z.d⟩:Nd.Sx),_,_,([]:List Ev)++[(⟨10,Z.now,N.self,ver,if (decide ((Kn.check [k0,k1,k2,k3,k4,k5,k6] N.lev)=0))=true then (1:Int) else 0,0,0⟩:Ev)],([]:List Fr),0,⟨⟨hk8,hS.sn,hS.q,hS.i,hS.ids,hS.n0,hS.n1,hS.m0,hS.c0⟩,⟨by have h_:=hlt.m;dsimp only;omega,by have h_:=hlt.c;dsimp only;omega,by have h_:=hlt.w;dsimp only;omega,by omega⟩,.inr ⟨(by clear hS hlt;simp_all),H,H,hsm9,H,H,H,H,_,H,H⟩⟩,H,H⟩
  refine J.cc 2 H<|J.drawHead 5 Tryz.mixed (by kernel_rfl)<|Hd.p (Pu.move H) H<|Hd.p (Pu.fieldAddr (off':=1) U47 H Z3 H H H) H<|Hd.q (Qt.lw 0 A3 H H H) H<|Hd.p (Pu.move H) H<|Hd.call (vs:=[.bool (decide ((Kn.check [k0,k1,k2,k3,k4,k5,k6] N.lev)=0))]) (caps:=[]) (by exact call95) H H (nd_bit (decide ((Kn.check [k0,k1,k2,k3,k4,k5,k6] N.lev)=0))) (fun _ _ h=>h) RoOk.nil H<|Hd.nil<|O.l (Lo.ca C80 (te_event N Z.now Z.ver Z.many Z.calls t (Value.slice none 0 0) (Value.slice none 0 0) ([]:List Ev) 10 ver (if (decide ((Kn.check [k0,k1,k2,k3,k4,k5,k6] N.lev)=0))=true then (1:Int) else 0) 0 0 (by first|omega|(simp only [List.length_append,List.length_cons,List.length_nil];omega))) [1,2] H H (.own 4 H H .nil)) H ?_
  rintro _ _ ⟨_,⟨E14,rfl,rfl⟩,rfl⟩
  refine O.oc 5 H ?_
  exact J.r1 [0,1,3,4,2,5,6,7,8,9,10,11,12,13] H H H ⟨(⟨Z.now,Z.ver,Z.many,Z.calls,k7,Z.sn,Z.q,Z.ps,Z.jm,Z.ws,Z.wl,Z.d⟩:Nd.Sx),_,_,([]:List Ev)++[(⟨10,Z.now,N.self,ver,if (decide ((Kn.check [k0,k1,k2,k3,k4,k5,k6] N.lev)=0))=true then (1:Int) else 0,0,0⟩:Ev)],([]:List Fr),0,⟨⟨hk8,hS.sn,hS.q,hS.i,hS.ids,hS.n0,hS.n1,hS.m0,hS.c0⟩,⟨by have h_:=hlt.m;dsimp only;omega,by have h_:=hlt.c;dsimp only;omega,by have h_:=hlt.w;dsimp only;omega,by omega⟩,.inr ⟨(by clear hS hlt;simp_all),H,H,hsm9,H,H,H,H,_,H,H⟩⟩,H,H⟩
 have p16:=of_decide_eq_false h5
 refine Hd.gskip (t:=24) H H (no_bool (by rw [h5];decide)) H H<|Hd.gskip (t:=24) H H (no_bool (by rw [h5];decide)) H H<|Hd.gskip (t:=24) H H (no_bool (by rw [h5];decide)) H H<|Hd.gskip (t:=24) H H (no_bool (by rw [h5];decide)) H H<|Hd.gskip (t:=24) H H (no_bool (by rw [h5];decide)) H H<|Hd.gskip (t:=24) H H (no_bool (by rw [h5];decide)) H H<|Hd.nil<|O.kf 24 H h5<|O.oc 13 H<|J.drawHead 5 Tryz.mixed (by kernel_rfl)<|Hd.p (Pu.move H) H<|Hd.p (Pu.fieldAddr (off':=1) U47 H Z3 H H H) H<|Hd.q (Qt.lw 0 A3 H H H) H<|Hd.p (Pu.move H) H<|Hd.call (vs:=[.bool false]) (caps:=[]) (by exact call95) H H (nd_bit false) (fun _ _ h=>h) RoOk.nil H<|Hd.nil<|O.l (Lo.ca C80 (te_event N Z.now Z.ver Z.many Z.calls t (Value.slice none 0 0) (Value.slice none 0 0) ([]:List Ev) 10 ver (if false=true then (1:Int) else 0) 0 0 (by first|omega|(simp only [List.length_append,List.length_cons,List.length_nil];omega))) [0,1] H H (.own 3 H H .nil)) H ?_
 rintro _ _ ⟨_,⟨E17,rfl,rfl⟩,rfl⟩
 refine O.oc 5 H ?_
 exact J.r1 [0,1,2,3,4,5,6,7,8,9,10,11,12,13] H H H ⟨(⟨Z.now,Z.ver,Z.many,Z.calls,Z.k,Z.sn,Z.q,Z.ps,Z.jm,Z.ws,Z.wl,Z.d⟩:Nd.Sx),_,_,([]:List Ev)++[(⟨10,Z.now,N.self,ver,if false=true then (1:Int) else 0,0,0⟩:Ev)],([]:List Fr),0,⟨⟨hS.k,hS.sn,hS.q,hS.i,hS.ids,hS.n0,hS.n1,hS.m0,hS.c0⟩,⟨by have h_:=hlt.m;dsimp only;omega,by have h_:=hlt.c;dsimp only;omega,by have h_:=hlt.w;dsimp only;omega,by omega⟩,.inr ⟨(by clear hS hlt;simp_all),H,H,(Nd.Kt.Same.refl Z.k),H,H,H,H,_,H,H⟩⟩,H,H⟩
theorem nw_breaks1 (ph:Int) (N:Nd.Nc) (now ver many calls:Int) (k:Nd.Kt) (t:Nat) (EV FV:Value) (evs:List Ev) (frs:List Fr) (ps:Nd.Pl) (jm:List (Int×Nd.Jb)) (ws:Ws) (wl:List Pr) (x:Im) (nv:Value) (hnv:Value.oneCell' nv=true) (hN:N.Ok) (hin:Nd.In N ps jm wl ws) (hx:x∈Nd.its ps) (he:evs.length≤99990) (hf:frs.length≤99990) (hp:ph=1):Tri prog 89 #[.pointer (some ⟨N.n,0,none⟩),.pointer (some ⟨t,0,none⟩),.agg #[.int .i64 x.id,.int .i64 x.level,.int .i64 x.from_,.int .i64 x.deadline,.int .i64 x.budget,.int .i64 x.since,.int .i64 x.seq,.int .i64 ph,nv]] [var N.n (Nd.nC N now ver many calls) 90,ct N k] [var t [.pointer (some ⟨N.n,0,none⟩),EV,FV] 261,row EV 51 7 (evs.map Ev.cells),row FV 62 23 (frs.map Fr.cells),sl N ps,mi N.jb Nd.jobV jm,bun (Nd.nRows 3 jm),wt 195 N.w ws] (fun v L'=>∃ EV' FV' ps' ws',v=.tuple #[]∧(Nd.its ps).Perm (x :: Nd.its ps')∧Nd.In N ps' (delI jm x.id) (Wt.drop wl x.id) ws'∧L'=[var t [.pointer (some ⟨N.n,0,none⟩),EV',FV'] 261,row EV' 51 7 ((evs++[Nd.endE now N.self (x,10)]).map Ev.cells),row FV' 62 23 ((frs++[Nd.endF N.self k (x,10)]).map Fr.cells),sl N ps',mi N.jb Nd.jobV (delI jm x.id),bun (Nd.nRows 3 (delI jm x.id)),wt 195 N.w ws']):=by
 subst hp;exact nw_breaks N now ver many calls k t EV FV evs frs ps jm ws wl x nv hnv hN hin hx he hf
theorem nw_Wkbr (t gn gi gd:Nat) (N:Nd.Nc) (Z:Nd.Sx) (n:Nat) (id:Int) (hN:N.Ok) (hS:Z.Ok N) (hlt:Z.Lt n) (hn:n≤9000):Tri prog 189 #[.pointer (some ⟨t,0,none⟩),.pointer (some ⟨gn,0,none⟩),.pointer (some ⟨gi,0,none⟩),.pointer (some ⟨gd,0,none⟩)] [var gn [.pointer (some ⟨N.n,0,none⟩)] 29,var gi [.int .i64 id] 3,var gd [.func (.func 89) #[.pointer (some ⟨N.n,0,none⟩)] #[]] 148] (tlA N t (.slice none 0 0) (.slice none 0 0) [] []++ndA N Z) (fun v L'=>OutC N t (fun S' es fs e=>S'.Ok N∧S'.Lt (n+1)∧Nd.BrkR N Z id S' es fs e) v L'):=by
 refine Tri.en func189 H ntmps189 H fun w0=>J.cc 5 H ?_
 refine by_bool ((getI Z.jm id).isSome) (fun h1=>?_) (fun h1=>?_)
 ·
  obtain ⟨j,hj⟩:=Option.isSome_iff_exists.1 h1
  have hjx:=(hS.i.j.job _ _ hj).2.1
  have hjg:getI Z.jm j.x.id=some j:=by rw [hjx];exact hj
  refine J.dm [(0,false),(1,false),(2,false),(3,false),(4,false),(5,false),(6,false),(7,false),(8,false),(9,true),(10,true),(11,false)] [3,7] Tryz.mixed (by kernel_rfl) H<|Mx.q H (Qt.lw 0 A29 H H H) H<|Mx.r 2 H<|Mx.q H (Qt.lv 0 A86 H H H) H<|Mx.q H (Qt.lw 1 A3 H H H) H<|Mx.q H (Qt.lkOk (V:=.agg #[.int .i64 j.x.id,.int .i64 j.x.level,.int .i64 j.x.from_,.int .i64 j.x.deadline,.int .i64 j.x.budget,.int .i64 j.x.since,.int .i64 j.x.seq,.int .i64 j.ph,j.v]) (q:=true) N86 N3 Y68 H H (Mc.own 1 N.jb H H) (by rw [hj];rfl) (by rw [hj];rfl)) H<|Mx.r 3 H<|Mx.l H (Lo.al Y68 H) H ?_
  rintro _ _ ⟨g2,rfl,rfl⟩
  refine MxK.gp [4,8] [0,1] H H<|Mx.l0 H (Lo.st 0 Z68 H H H H H (by simp only [List.all_cons,List.all_nil,Bool.and_true,(hS.i.j.one hj)]<;>rfl) H) ?_
  rintro _ _ rfl
  refine MxK.al [4,8] H (by kernel_rfl)<|Mx.r 1 H<|Mx.nil<|J.co 12 H<|O.q (Qt.lv 0 A3 H H H) H<|O.oc 2 H ?_
  refine J.cd H (fun p3=>?_) (fun p3=>?_)
  ·
   refine J.cc 4 H ?_
   exact J.r1 [1,2,3,4,5,6,7,8,9,10,11,12,13,14] H H H ⟨(⟨Z.now,Z.ver,Z.many,Z.calls,Z.k,Z.sn,Z.q,Z.ps,Z.jm,Z.ws,Z.wl,Z.d⟩:Nd.Sx),_,_,([]:List Ev),([]:List Fr),12,⟨⟨hS.k,hS.sn,hS.q,hS.i,hS.ids,hS.n0,hS.n1,hS.m0,hS.c0⟩,⟨by have h_:=hlt.m;dsimp only;omega,by have h_:=hlt.c;dsimp only;omega,by have h_:=hlt.w;dsimp only;omega,by omega⟩,.inr ⟨j,hj,.inl ⟨of_decide_eq_true (decide_eq_true p3),H,H,H,H⟩⟩⟩,H,H⟩
  refine J.co 3 H<|O.q (Qt.lw 2 isAgg148 H H H) H<|O.oo 1 H<|O.q (Qt.lva 0 A68 Z68 H H H) H<|O.l (Lo.cb call89 H H (nw_breaks1 j.ph N Z.now Z.ver Z.many Z.calls Z.k t (Value.slice none 0 0) (Value.slice none 0 0) ([]:List Ev) ([]:List Fr) Z.ps Z.jm Z.ws Z.wl j.x j.v (hS.i.j.one hj) hN hS.i (hS.i.j.job _ _ hj).1 (by first|omega|(simp only [List.length_append,List.length_cons,List.length_nil];omega)|(have h_:=hca.len;simp only [List.length_nil] at h_;omega)) (by first|omega|(simp only [List.length_append,List.length_cons,List.length_nil];omega)|(have h_:=hca.len;simp only [List.length_nil] at h_;omega)) (Decidable.not_not.1 p3)) [1,2,3,7,8,9,10] H (.own 4 H H (.own 5 H H .nil))) H ?_
  rintro _ _ ⟨_,⟨E4,F5,ps6,ws7,rfl,hp8,hin9,rfl⟩,rfl⟩
  refine O.oo 4 H<|O.l (Lo.ca C86 (te_on N Z.now Z.ver Z.many Z.calls Z.k t E4 F5 (([]:List Ev)++[Nd.endE Z.now N.self (j.x,10)]) Z.q ps6 (delI Z.jm j.x.id) ws7 (Wt.drop Z.wl j.x.id) hN hS.k hS.q hin9 (Nd.ids_less hS.ids hp8) (by first|omega|(simp only [List.length_append,List.length_cons,List.length_nil];omega)|(have h_:=hca.len;simp only [List.length_nil] at h_;omega))) [0,1,9,10,3,4,5] H H (.own 8 H H .nil)) H ?_
  rintro _ _ ⟨_,⟨k11,q12,ps13,jm14,E15,es16,S17,rfl,hk18,hsm19,hq20,hin21,hon22,hfull23,rfl⟩,rfl⟩
  refine O.oc 5 H ?_
  exact J.r1 [0,1,7,10,2,3,4,5,6,8,11,12,13,14] H H H ⟨(⟨Z.now,Z.ver,Z.many,Z.calls,k11,Z.sn,q12,ps13,jm14,ws7,(Wt.drop Z.wl j.x.id),Z.d⟩:Nd.Sx),_,_,es16,([]:List Fr)++[Nd.endF N.self Z.k (j.x,10)],0,⟨⟨hk18,hS.sn,hq20,hin21,hon22.ids (Nd.ids_less hS.ids hp8),hS.n0,hS.n1,hS.m0,hS.c0⟩,⟨by have h_:=hlt.m;dsimp only;omega,by have h_:=hlt.c;dsimp only;omega,by have h_:=hlt.w;have h3_:=Wt.drop_len (l:=Z.wl) (j:=j.x.id);dsimp only;omega,by omega⟩,.inr ⟨j,hj,.inr ⟨(Decidable.not_not.1 p3),H,⟨H,H,hsm19⟩,H,_,S17,hp8,hon22,H,hfull23⟩⟩⟩,H,H⟩
 have hj:getI Z.jm id=none:=by simpa using h1
 refine J.dm [(0,false),(1,false),(2,false),(3,false),(4,false),(5,false),(6,false),(7,false),(8,false),(9,true),(10,true),(11,false)] [3,7] Tryz.mixed (by kernel_rfl) H<|Mx.q H (Qt.lw 0 A29 H H H) H<|Mx.r 2 H<|Mx.q H (Qt.lv 0 A86 H H H) H<|Mx.q H (Qt.lw 1 A3 H H H) H<|Mx.q H (Qt.lkOk (V:=.agg #[.int .i64 0,.int .i64 0,.int .i64 0,.int .i64 0,.int .i64 0,.int .i64 0,.int .i64 0,.int .i64 0,Value.slice none 0 0]) (q:=false) N86 N3 Y68 H H (Mc.own 1 N.jb H H) (by rw [hj];rfl) (by rw [hj];rfl)) H<|Mx.r 3 H<|Mx.l H (Lo.al Y68 H) H ?_
 rintro _ _ ⟨g25,rfl,rfl⟩
 refine MxK.gp [4,8] [0,1] H H<|Mx.l0 H (Lo.st 0 Z68 H H H H H H H) ?_
 rintro _ _ rfl
 refine MxK.al [4,8] H (by kernel_rfl)<|Mx.r 1 H<|Mx.nil<|J.cc 11 H ?_
 exact J.r1 [1,2,3,4,5,6,7,8,9,10,11,12,13,14] H H H ⟨(⟨Z.now,Z.ver,Z.many,Z.calls,Z.k,Z.sn,Z.q,Z.ps,Z.jm,Z.ws,Z.wl,Z.d⟩:Nd.Sx),_,_,([]:List Ev),([]:List Fr),7,⟨⟨hS.k,hS.sn,hS.q,hS.i,hS.ids,hS.n0,hS.n1,hS.m0,hS.c0⟩,⟨by have h_:=hlt.m;dsimp only;omega,by have h_:=hlt.c;dsimp only;omega,by have h_:=hlt.w;dsimp only;omega,by omega⟩,.inl ⟨hj,H,H,H,H⟩⟩,H,H⟩
theorem nw_calling1 (ph:Int) (N:Nd.Nc) (now ver many calls:Int) (k:Nd.Kt) (t:Nat) (EV FV:Value) (evs:List Ev) (frs:List Fr) (ps:Nd.Pl) (jm:List (Int×Nd.Jb)) (ws:Ws) (wl:List Pr) (d:Sh.Ts) (x:Im) (nv:Value) (j:Nd.Jb) (hnv:Value.oneCell' nv=true) (hN:N.Ok) (hin:Nd.In N ps jm wl ws) (hx:x∈Nd.its ps) (hg:getI jm x.id=some j) (hjx:j.x=x) (hc0:0≤calls) (hc1:calls≤90000) (hwl:wl.length≤90000) (he:evs.length≤90000) (hf:frs.length≤90000) (hp:ph=1):Tri prog 88 #[.pointer (some ⟨N.n,0,none⟩),.pointer (some ⟨t,0,none⟩),.agg #[.int .i64 x.id,.int .i64 x.level,.int .i64 x.from_,.int .i64 x.deadline,.int .i64 x.budget,.int .i64 x.since,.int .i64 x.seq,.int .i64 ph,nv]] [ct N k,var N.tb (Sh.tbC N.ttl d) 215,rd N.cv 4 (N.calls.map Cl.cells)] [var t [.pointer (some ⟨N.n,0,none⟩),EV,FV] 261,row EV 51 7 (evs.map Ev.cells),row FV 62 23 (frs.map Fr.cells),var N.n (Nd.nC N now ver many calls) 90,sl N ps,mi N.jb Nd.jobV jm,bun (Nd.nRows 3 jm),wt 195 N.w ws] (fun v L'=>∃ EV' FV' ps' jm' ws' wl' evs' frs' c',v=.tuple #[]∧Nd.In N ps' jm' wl' ws'∧Nd.CaR N now k x (Nd.its ps) (Nd.its ps') jm jm' evs evs' frs frs'∧(calls≤c'∧c'≤calls+6)∧wl'.length≤wl.length+6∧L'=[var t [.pointer (some ⟨N.n,0,none⟩),EV',FV'] 261,row EV' 51 7 (evs'.map Ev.cells),row FV' 62 23 (frs'.map Fr.cells),var N.n (Nd.nC N now ver many c') 90,sl N ps',mi N.jb Nd.jobV jm',bun (Nd.nRows 3 jm'),wt 195 N.w ws']):=by
 subst hp;exact nw_calling N now ver many calls k t EV FV evs frs ps jm ws wl d x nv j hnv hN hin hx hg hjx hc0 hc1 hwl he hf
theorem nw_Wkca (t gn gi gd:Nat) (N:Nd.Nc) (Z:Nd.Sx) (n:Nat) (id:Int) (hN:N.Ok) (hS:Z.Ok N) (hlt:Z.Lt n) (hn:n≤9000):Tri prog 189 #[.pointer (some ⟨t,0,none⟩),.pointer (some ⟨gn,0,none⟩),.pointer (some ⟨gi,0,none⟩),.pointer (some ⟨gd,0,none⟩)] [var gn [.pointer (some ⟨N.n,0,none⟩)] 29,var gi [.int .i64 id] 3,var gd [.func (.func 88) #[.pointer (some ⟨N.n,0,none⟩)] #[]] 148] (tlA N t (.slice none 0 0) (.slice none 0 0) [] []++ndA N Z) (fun v L'=>OutC N t (fun S' es fs e=>S'.Ok N∧S'.Lt (n+1)∧Nd.DonR N Z id S' es fs e) v L'):=by
 refine Tri.en func189 H ntmps189 H fun w0=>J.cc 5 H ?_
 refine by_bool ((getI Z.jm id).isSome) (fun h1=>?_) (fun h1=>?_)
 ·
  obtain ⟨j,hj⟩:=Option.isSome_iff_exists.1 h1
  have hjx:=(hS.i.j.job _ _ hj).2.1
  have hjg:getI Z.jm j.x.id=some j:=by rw [hjx];exact hj
  refine J.dm [(0,false),(1,false),(2,false),(3,false),(4,false),(5,false),(6,false),(7,false),(8,false),(9,true),(10,true),(11,false)] [3,7] Tryz.mixed (by kernel_rfl) H<|Mx.q H (Qt.lw 0 A29 H H H) H<|Mx.r 2 H<|Mx.q H (Qt.lv 0 A86 H H H) H<|Mx.q H (Qt.lw 1 A3 H H H) H<|Mx.q H (Qt.lkOk (V:=.agg #[.int .i64 j.x.id,.int .i64 j.x.level,.int .i64 j.x.from_,.int .i64 j.x.deadline,.int .i64 j.x.budget,.int .i64 j.x.since,.int .i64 j.x.seq,.int .i64 j.ph,j.v]) (q:=true) N86 N3 Y68 H H (Mc.own 1 N.jb H H) (by rw [hj];rfl) (by rw [hj];rfl)) H<|Mx.r 3 H<|Mx.l H (Lo.al Y68 H) H ?_
  rintro _ _ ⟨g2,rfl,rfl⟩
  refine MxK.gp [4,8] [0,1] H H<|Mx.l0 H (Lo.st 0 Z68 H H H H H (by simp only [List.all_cons,List.all_nil,Bool.and_true,(hS.i.j.one hj)]<;>rfl) H) ?_
  rintro _ _ rfl
  refine MxK.al [4,8] H (by kernel_rfl)<|Mx.r 1 H<|Mx.nil<|J.co 12 H<|O.q (Qt.lv 0 A3 H H H) H<|O.oc 2 H ?_
  refine J.cd H (fun p3=>?_) (fun p3=>?_)
  ·
   refine J.cc 4 H ?_
   exact J.r1 [1,2,3,4,5,6,7,8,9,10,11,12,13,14] H H H ⟨(⟨Z.now,Z.ver,Z.many,Z.calls,Z.k,Z.sn,Z.q,Z.ps,Z.jm,Z.ws,Z.wl,Z.d⟩:Nd.Sx),_,_,([]:List Ev),([]:List Fr),12,⟨⟨hS.k,hS.sn,hS.q,hS.i,hS.ids,hS.n0,hS.n1,hS.m0,hS.c0⟩,⟨by have h_:=hlt.m;dsimp only;omega,by have h_:=hlt.c;dsimp only;omega,by have h_:=hlt.w;dsimp only;omega,by omega⟩,.inr ⟨j,hj,.inl ⟨of_decide_eq_true (decide_eq_true p3),H,H,H,H⟩⟩⟩,H,H⟩
  refine J.co 3 H<|O.q (Qt.lw 2 isAgg148 H H H) H<|O.oo 1 H<|O.q (Qt.lva 0 A68 Z68 H H H) H<|O.l (Lo.cb call88 H H (nw_calling1 j.ph N Z.now Z.ver Z.many Z.calls Z.k t (Value.slice none 0 0) (Value.slice none 0 0) ([]:List Ev) ([]:List Fr) Z.ps Z.jm Z.ws Z.wl Z.d j.x j.v j (hS.i.j.one hj) hN hS.i (hS.i.j.job _ _ hj).1 hjg H hS.c0 (by have h_:=hlt.c;omega) (by have h_:=hlt.w;omega) (by first|omega|(simp only [List.length_append,List.length_cons,List.length_nil];omega)|(have h_:=hca.len;simp only [List.length_nil] at h_;omega)) (by first|omega|(simp only [List.length_append,List.length_cons,List.length_nil];omega)|(have h_:=hca.len;simp only [List.length_nil] at h_;omega)) (Decidable.not_not.1 p3)) [1,2,3,4,7,8,9,10] H (.own 5 H H (.own 12 H H (.of 13 row_rd H H .nil)))) H ?_
  rintro _ _ ⟨_,⟨E4,F5,ps6,jm7,ws8,wl9,es10,fs11,c12,rfl,hin13,hca14,hcb15,hwl16,rfl⟩,rfl⟩
  have hca:=hca14
  refine O.oo 4 H<|O.l (Lo.ca C86 (te_on N Z.now Z.ver Z.many c12 Z.k t E4 F5 es10 Z.q ps6 jm7 ws8 wl9 hN hS.k hS.q hin13 (hca14.ids hS.ids) (by first|omega|(simp only [List.length_append,List.length_cons,List.length_nil];omega)|(have h_:=hca.len;simp only [List.length_nil] at h_;omega))) [0,1,9,10,4,5,6] H H (.own 3 H H .nil)) H ?_
  rintro _ _ ⟨_,⟨k18,q19,ps20,jm21,E22,es23,S24,rfl,hk25,hsm26,hq27,hin28,hon29,hfull30,rfl⟩,rfl⟩
  refine O.oc 5 H ?_
  exact J.r1 [0,1,7,8,2,3,4,5,6,9,11,12,13,14] H H H ⟨(⟨Z.now,Z.ver,Z.many,c12,k18,Z.sn,q19,ps20,jm21,ws8,wl9,Z.d⟩:Nd.Sx),_,_,es23,fs11,0,⟨⟨hk25,hS.sn,hq27,hin28,hon29.ids (hca14.ids hS.ids),hS.n0,hS.n1,hS.m0,(by have h_:=hcb15;have h2_:=hS.c0;dsimp only;omega)⟩,⟨by have h_:=hlt.m;dsimp only;omega,by have h_:=hlt.c;have h3_:=hcb15;dsimp only;omega,by have h_:=hlt.w;have h3_:=hwl16;dsimp only;omega,by omega⟩,.inr ⟨j,hj,.inr ⟨(Decidable.not_not.1 p3),H,⟨H,H,hsm26⟩,H,_,_,_,S24,hca14,hon29,hfull30⟩⟩⟩,H,H⟩
 have hj:getI Z.jm id=none:=by simpa using h1
 refine J.dm [(0,false),(1,false),(2,false),(3,false),(4,false),(5,false),(6,false),(7,false),(8,false),(9,true),(10,true),(11,false)] [3,7] Tryz.mixed (by kernel_rfl) H<|Mx.q H (Qt.lw 0 A29 H H H) H<|Mx.r 2 H<|Mx.q H (Qt.lv 0 A86 H H H) H<|Mx.q H (Qt.lw 1 A3 H H H) H<|Mx.q H (Qt.lkOk (V:=.agg #[.int .i64 0,.int .i64 0,.int .i64 0,.int .i64 0,.int .i64 0,.int .i64 0,.int .i64 0,.int .i64 0,Value.slice none 0 0]) (q:=false) N86 N3 Y68 H H (Mc.own 1 N.jb H H) (by rw [hj];rfl) (by rw [hj];rfl)) H<|Mx.r 3 H<|Mx.l H (Lo.al Y68 H) H ?_
 rintro _ _ ⟨g32,rfl,rfl⟩
 refine MxK.gp [4,8] [0,1] H H<|Mx.l0 H (Lo.st 0 Z68 H H H H H H H) ?_
 rintro _ _ rfl
 refine MxK.al [4,8] H (by kernel_rfl)<|Mx.r 1 H<|Mx.nil<|J.cc 11 H ?_
 exact J.r1 [1,2,3,4,5,6,7,8,9,10,11,12,13,14] H H H ⟨(⟨Z.now,Z.ver,Z.many,Z.calls,Z.k,Z.sn,Z.q,Z.ps,Z.jm,Z.ws,Z.wl,Z.d⟩:Nd.Sx),_,_,([]:List Ev),([]:List Fr),7,⟨⟨hS.k,hS.sn,hS.q,hS.i,hS.ids,hS.n0,hS.n1,hS.m0,hS.c0⟩,⟨by have h_:=hlt.m;dsimp only;omega,by have h_:=hlt.c;dsimp only;omega,by have h_:=hlt.w;dsimp only;omega,by omega⟩,.inl ⟨hj,H,H,H,H⟩⟩,H,H⟩
theorem nw_Tic1 (t gn:Nat) (N:Nd.Nc) (Z:Nd.Sx) (n:Nat) (hN:N.Ok) (hS:Z.Ok N) (hlt:Z.Lt n) (hn:n≤9000):Tri prog 101 #[.pointer (some ⟨t,0,none⟩),.pointer (some ⟨gn,0,none⟩)] [var gn [.pointer (some ⟨N.n,0,none⟩)] 29] (tlA N t (.slice none 0 0) (.slice none 0 0) [] []++ndA N Z) (fun v L'=>OutC N t (fun S' es fs e=>S'.Ok N∧S'.Lt (n+1)∧Nd.TicR N Z S' es fs e) v L'):=by
 have hnw:=Nd.later_bnd Z.now 1
 have hwi:=hN.hi0
 refine Tri.en func101 H ntmps101 H fun w0=>J.cc 5 H<|J.drawHead 8 Tryz.mixed (by kernel_rfl)<|Hd.q (Qt.lw 0 A29 H H H) H<|Hd.q (Qt.lw 0 A29 H H H) H<|Hd.p (Pu.nilCheck H) H<|Hd.p (Pu.fieldAddr (off':=21) U90 H Z3 H H H) H<|Hd.q (Qt.lv 3 A3 H H H) H<|Hd.call (vs:=[.int .i64 Z.now,.int .i64 1]) (caps:=[]) (by exact call102) H H (bd_Later Z.now 1) (fun _ _ h=>h) RoOk.nil H<|Hd.p (Pu.nilCheck H) H<|Hd.p (Pu.fieldAddr (off':=21) U90 H Z3 H H H) H<|Hd.nil<|O.l0 (Lo.st 3 Z3 H H H H H H H) ?_
 rintro _ _ rfl
 refine O.oc 3 H<|J.dm [(0,false),(1,false),(2,false),(3,false),(4,false),(5,false),(6,false),(7,false),(10,false),(8,true),(9,false)] [3] Tryz.mixed (by kernel_rfl) H<|Mx.q H (Qt.lw 0 A29 H H H) H<|Mx.r 2 H<|Mx.q H (Qt.lv 0 A84 H H H) H<|Mx.q H (Qt.lw 0 A29 H H H) H<|Mx.r 2 H<|Mx.q H (Qt.lv 0 A3 H H H) H<|Mx.r 1 H<|Mx.l H (Lo.ca call103 (qw_Sweep N Z.q (Nd.later Z.now 1) hN hS.q) [5] H H .nil) H ?_
 rintro v6 _ ⟨_,⟨q1,o2,hq3,ho4,hp5,rfl⟩,rfl⟩
 have hgl:(Nd.Gone o2 (Nd.later Z.now 1) o2.length).length≤64:=by have h1_:=Nd.gone_len (o:=o2) (now:=Nd.later Z.now 1) (k:=o2.length);have h2_:=ho4.length_eq;have h3_:=hS.q.hl;have h4_:=hN.hq1;omega
 refine MxK.gp [1,5] [1] H H<|Mx.q H (Qt.lenM U52 H (Src.row 0 H)) H<|Mx.nil<|J.block ?_
 refine J.lo (X:=Nat×Value×Value×List Ev×List Fr) (fun (i,EV1,FV1,evs1,frs1)=>i≤(Nd.Gone o2 (Nd.later Z.now 1) o2.length).length∧evs1=((Nd.Gone o2 (Nd.later Z.now 1) o2.length).take i).map (fun x=>Nd.endE (Nd.later Z.now 1) N.self (x,Nd.ends x (Nd.later Z.now 1)))∧frs1=((Nd.Gone o2 (Nd.later Z.now 1) o2.length).take i).map (fun x=>Nd.endF N.self Z.k (x,Nd.ends x (Nd.later Z.now 1)))) (fun (i,EV1,FV1,evs1,frs1)=>[(25,.int .i64 (i:Int))]) (fun (i,EV1,FV1,evs1,frs1)=>[var t [.pointer (some ⟨N.n,0,none⟩),EV1,FV1] 261,row EV1 51 7 (evs1.map Ev.cells),row FV1 62 23 (frs1.map Fr.cells)]) (fun (i,EV1,FV1,evs1,frs1)=>(Nd.Gone o2 (Nd.later Z.now 1) o2.length).length-i) ⟨0,Value.slice none 0 0,Value.slice none 0 0,[],[]⟩ [0,1,3,23,24] [2,3,4] [1,5,6,0,7,8,9,10,11,12,13,14] ⟨by omega,rfl,rfl⟩ ⟨(eqi (by omega)),trivial⟩ H H ?_
 rintro ⟨i,EV1,FV1,evs1,frs1⟩ ⟨hi,hes,hfs⟩
 refine J.cc 5 H ?_
 refine J.cd H (fun p7=>?_) (fun p7=>?_)
 ·
  refine J.co 5 H ?_
  obtain ⟨e8,he8⟩:=ex_at (l:=Nd.Gone o2 (Nd.later Z.now 1) o2.length) (i:=i) (by omega)
  refine O.q (Qt.ix U52 Z66 H (Src.row 3 H) he8 H (by rfl)) H<|O.q (Qt.lea A66 Z66 (Src.row 3 H) he8 0 H (by omega) H) H<|O.l (Lo.al Y66 H) H ?_
  rintro _ _ ⟨g9,rfl,rfl⟩
  refine O.l0 (Lo.st 0 Z66 H H H H H H H) ?_
  rintro _ _ rfl
  refine O.nil<|J.drawHead 8 Tryz.mixed (by kernel_rfl)<|Hd.p (Pu.move H) H<|Hd.q (Qt.lva 0 A66 Z66 H H H) H<|Hd.q (Qt.lva 0 A66 Z66 H H H) H<|Hd.q (Qt.lw 0 A29 H H H) H<|Hd.p (Pu.nilCheck H) H<|Hd.p (Pu.fieldAddr (off':=21) U90 H Z3 H H H) H<|Hd.q (Qt.lv 5 A3 H H H) H<|Hd.call (vs:=[.agg #[.int .i64 e8.id,.int .i64 e8.level,.int .i64 e8.from_,.int .i64 e8.deadline,.int .i64 e8.budget,.int .i64 e8.since,.int .i64 e8.seq],.int .i64 (Nd.later Z.now 1)]) (caps:=[]) (by exact call104) H H (rk_Ends e8 (Nd.later Z.now 1)) (fun _ _ h=>h) RoOk.nil H<|Hd.nil<|O.l (Lo.ca call83 (te_end N (Nd.later Z.now 1) Z.ver Z.many Z.calls Z.k t EV1 FV1 evs1 frs1 e8 (Nd.ends e8 (Nd.later Z.now 1)) (by first|omega|(have h1_:=congrArg List.length hes;have h2_:=congrArg List.length hfs;simp only [List.length_map,List.length_take] at h1_ h2_;omega)|(have h3_:=hlr.len;have h4_:=hlr.num;have h5_:=Nd.its_le hS.i.hb;have h6_:=hN.hw1;have h1_:=congrArg List.length hes;have h2_:=congrArg List.length hfs;simp only [List.length_map,List.length_take] at h1_ h2_;first|omega|(simp only [List.length_append,List.length_cons,List.length_nil];omega))) (by first|omega|(have h1_:=congrArg List.length hes;have h2_:=congrArg List.length hfs;simp only [List.length_map,List.length_take] at h1_ h2_;omega)|(have h3_:=hlr.len;have h4_:=hlr.num;have h5_:=Nd.its_le hS.i.hb;have h6_:=hN.hw1;have h1_:=congrArg List.length hes;have h2_:=congrArg List.length hfs;simp only [List.length_map,List.length_take] at h1_ h2_;first|omega|(simp only [List.length_append,List.length_cons,List.length_nil];omega)))) [1,2,3] H H (.own 5 H H (.own 6 H H .nil))) H ?_
  rintro _ _ ⟨_,⟨E10,F11,rfl,rfl⟩,rfl⟩
  refine O.oo 3 H<|O.p (Pu.add' H H (by omega)) H<|O.oc 2 H ?_
  exact J.lq ⟨i+1,E10,F11,evs1++[Nd.endE (Nd.later Z.now 1) N.self (e8,(Nd.ends e8 (Nd.later Z.now 1)))],frs1++[Nd.endF N.self Z.k (e8,(Nd.ends e8 (Nd.later Z.now 1)))]⟩ [0,1,3,23,24] [0,1,2] [4,5,6,7,8,9,10,11,12,13,14,15] ⟨by omega,(by rw [Nd.map_next he8,←hes]),(by rw [Nd.map_next he8,←hfs])⟩ (by dsimp only;omega) ⟨(eqi (by omega)),trivial⟩ H H
 refine J.co 4 H<|O.l (Lo.ca call105 (te_late N (Nd.later Z.now 1) Z.ver Z.many Z.calls Z.k t EV1 FV1 evs1 frs1 Z.ps Z.jm Z.ws Z.wl hN hS.i (by first|omega|(have h1_:=congrArg List.length hes;have h2_:=congrArg List.length hfs;simp only [List.length_map,List.length_take] at h1_ h2_;omega)|(have h3_:=hlr.len;have h4_:=hlr.num;have h5_:=Nd.its_le hS.i.hb;have h6_:=hN.hw1;have h1_:=congrArg List.length hes;have h2_:=congrArg List.length hfs;simp only [List.length_map,List.length_take] at h1_ h2_;first|omega|(simp only [List.length_append,List.length_cons,List.length_nil];omega))) (by first|omega|(have h1_:=congrArg List.length hes;have h2_:=congrArg List.length hfs;simp only [List.length_map,List.length_take] at h1_ h2_;omega)|(have h3_:=hlr.len;have h4_:=hlr.num;have h5_:=Nd.its_le hS.i.hb;have h6_:=hN.hw1;have h1_:=congrArg List.length hes;have h2_:=congrArg List.length hfs;simp only [List.length_map,List.length_take] at h1_ h2_;first|omega|(simp only [List.length_append,List.length_cons,List.length_nil];omega)))) [0,1,2,7,8,9,10] H H (.own 4 H H (.own 5 H H .nil))) H ?_
 rintro _ _ ⟨_,⟨ps13,jm14,ws15,wl16,E17,F18,es19,fs20,D21,rfl,hin22,hlr23,hlt24,hwl25,rfl⟩,rfl⟩
 have hlr:=hlr23
 refine O.oc 3 H<|J.drawStill Tryz.mixed (by kernel_rfl)<|S.q (Qt.lw 0 A29 H H H) H<|S.r 2 H<|S.q (Qt.lv 8 A3 H H H) H<|S.q (Qt.lw 0 A29 H H H) H<|S.r 3 H<|S.q (Qt.lv 8 A3 H H H) H<|S.p (Pu.rem' H H (by omega) (by omega)) H<|S.r 1 H<|S.endJ ?_
 refine J.cd H (fun p27=>?_) (fun p27=>?_)
 ·
  refine J.co 2 H<|O.q (Qt.lw 0 A29 H H H) H<|O.oo 2 H<|O.q (Qt.lv 8 A82 H H H) H<|O.l (Lo.ca call106 (ct_Close N Z.k hN hS.k) [9] H H .nil) H ?_
  rintro _ _ ⟨_,⟨k28,vd29,b30,b31,hk32,hmv33,rfl,rfl⟩,rfl⟩
  refine O.l (Lo.al zeroValue161 H) H ?_
  rintro _ _ ⟨g35,rfl,rfl⟩
  refine O.l0 (Lo.st 0 sizeOf161 H H H H H H H) ?_
  rintro _ _ rfl
  refine O.oo 4 H<|O.q (Qt.lv 0 A3 H H H) H<|O.oo 1 H<|O.q (Qt.lv 0 A3 H H H) H<|O.oo 1 H<|O.q (Qt.lv 0 A3 H H H) H<|O.oo 1 H<|O.q (Qt.lv 0 A3 H H H) H<|O.l (Lo.ca C80 (te_event N (Nd.later Z.now 1) Z.ver Z.many Z.calls t E17 F18 es19 9 k28.ep vd29 k28.thr k28.tier (by first|omega|(have h1_:=congrArg List.length hes;have h2_:=congrArg List.length hfs;simp only [List.length_map,List.length_take] at h1_ h2_;omega)|(have h3_:=hlr.len;have h4_:=hlr.num;have h5_:=Nd.its_le hS.i.hb;have h6_:=hN.hw1;have h1_:=congrArg List.length hes;have h2_:=congrArg List.length hfs;simp only [List.length_map,List.length_take] at h1_ h2_;first|omega|(simp only [List.length_append,List.length_cons,List.length_nil];omega)))) [2,3] H H (.own 10 H H .nil)) H ?_
  rintro _ _ ⟨_,⟨E36,rfl,rfl⟩,rfl⟩
  refine O.oo 4 H<|O.l (Lo.ca C86 (te_on N (Nd.later Z.now 1) Z.ver Z.many Z.calls k28 t E36 F18 (es19++[(⟨9,Nd.later Z.now 1,N.self,k28.ep,vd29,k28.thr,k28.tier⟩:Ev)]) q1 ps13 jm14 ws15 wl16 hN hk32 hq3 hin22 (Nd.ids_tick hS.ids ho4 hp5 hlr23.p) (by first|omega|(have h1_:=congrArg List.length hes;have h2_:=congrArg List.length hfs;simp only [List.length_map,List.length_take] at h1_ h2_;omega)|(have h3_:=hlr.len;have h4_:=hlr.num;have h5_:=Nd.its_le hS.i.hb;have h6_:=hN.hw1;have h1_:=congrArg List.length hes;have h2_:=congrArg List.length hfs;simp only [List.length_map,List.length_take] at h1_ h2_;first|omega|(simp only [List.length_append,List.length_cons,List.length_nil];omega)))) [0,1,3,11,5,6,7] H H (.own 10 H H .nil)) H ?_
  rintro _ _ ⟨_,⟨k38,q39,ps40,jm41,E42,es43,S44,rfl,hk45,hsm46,hq47,hin48,hon49,hfull50,rfl⟩,rfl⟩
  refine O.oc 5 H ?_
  exact J.r1 [0,1,8,11,2,3,4,5,6,9,12,13,14,15] H H H ⟨(⟨Nd.later Z.now 1,Z.ver,Z.many,Z.calls,k38,Z.sn,q39,ps40,jm41,ws15,wl16,Z.d⟩:Nd.Sx),_,_,es43,fs20,0,⟨⟨hk45,hS.sn,hq47,hin48,hon49.ids (Nd.ids_tick hS.ids ho4 hp5 hlr23.p),hnw.1,hnw.2,hS.m0,hS.c0⟩,⟨by have h_:=hlt.m;dsimp only;omega,by have h_:=hlt.c;dsimp only;omega,by have h_:=hlt.w;have h3_:=hwl25;dsimp only;omega,by omega⟩,⟨H,H,H,H,o2,_,D21,_,_,es19,_,_,S44,k28,ho4,hp5,(by dsimp only;rw [←Nd.map_all (f:=(fun x=>Nd.endE (Nd.later Z.now 1) N.self (x,Nd.ends x (Nd.later Z.now 1)))) (k:=i) (by omega),←Nd.map_all (f:=(fun x=>Nd.endF N.self Z.k (x,Nd.ends x (Nd.later Z.now 1)))) (k:=i) (by omega),←hes,←hfs];exact hlr23),hlt24,.inr ⟨of_decide_eq_true (decide_eq_true p27),hmv33,vd29,H⟩,hon49,H,hfull50,hsm46⟩⟩,H,H⟩
 refine J.co 4 H<|O.l (Lo.ca C86 (te_on N (Nd.later Z.now 1) Z.ver Z.many Z.calls Z.k t E17 F18 es19 q1 ps13 jm14 ws15 wl16 hN hS.k hq3 hin22 (Nd.ids_tick hS.ids ho4 hp5 hlr23.p) (by first|omega|(have h1_:=congrArg List.length hes;have h2_:=congrArg List.length hfs;simp only [List.length_map,List.length_take] at h1_ h2_;omega)|(have h3_:=hlr.len;have h4_:=hlr.num;have h5_:=Nd.its_le hS.i.hb;have h6_:=hN.hw1;have h1_:=congrArg List.length hes;have h2_:=congrArg List.length hfs;simp only [List.length_map,List.length_take] at h1_ h2_;first|omega|(simp only [List.length_append,List.length_cons,List.length_nil];omega)))) [0,1,9,10,3,4,5] H H (.own 8 H H .nil)) H ?_
 rintro _ _ ⟨_,⟨k52,q53,ps54,jm55,E56,es57,S58,rfl,hk59,hsm60,hq61,hin62,hon63,hfull64,rfl⟩,rfl⟩
 refine O.oc 5 H ?_
 exact J.r1 [0,1,7,10,2,3,4,5,6,8,11,12,13,14] H H H ⟨(⟨Nd.later Z.now 1,Z.ver,Z.many,Z.calls,k52,Z.sn,q53,ps54,jm55,ws15,wl16,Z.d⟩:Nd.Sx),_,_,es57,fs20,0,⟨⟨hk59,hS.sn,hq61,hin62,hon63.ids (Nd.ids_tick hS.ids ho4 hp5 hlr23.p),hnw.1,hnw.2,hS.m0,hS.c0⟩,⟨by have h_:=hlt.m;dsimp only;omega,by have h_:=hlt.c;dsimp only;omega,by have h_:=hlt.w;have h3_:=hwl25;dsimp only;omega,by omega⟩,⟨H,H,H,H,o2,_,D21,_,_,es19,_,_,S58,Z.k,ho4,hp5,(by dsimp only;rw [←Nd.map_all (f:=(fun x=>Nd.endE (Nd.later Z.now 1) N.self (x,Nd.ends x (Nd.later Z.now 1)))) (k:=i) (by omega),←Nd.map_all (f:=(fun x=>Nd.endF N.self Z.k (x,Nd.ends x (Nd.later Z.now 1)))) (k:=i) (by omega),←hes,←hfs];exact hlr23),hlt24,.inl ⟨of_decide_eq_false (decide_eq_false p27),H,H⟩,hon63,H,hfull64,hsm60⟩⟩,H,H⟩
theorem nw_Rst1 (t gn:Nat) (N:Nd.Nc) (Z:Nd.Sx) (n:Nat) (hN:N.Ok) (hS:Z.Ok N) (hlt:Z.Lt n) (hn:n≤9000):Tri prog 107 #[.pointer (some ⟨t,0,none⟩),.pointer (some ⟨gn,0,none⟩)] [var gn [.pointer (some ⟨N.n,0,none⟩)] 29] (tlA N t (.slice none 0 0) (.slice none 0 0) [] []++ndA N Z) (fun v L'=>OutC N t (fun S' es fs e=>S'.Ok N∧S'.Lt (n+1)∧Nd.RstR N Z S' es fs e) v L'):=by
 refine Tri.en func107 H ntmps107 H fun w0=>J.cc 6 H<|J.dm [(0,false),(1,false),(2,false),(3,false),(5,false),(6,false),(7,false),(8,false),(12,false),(4,true),(9,true),(10,true),(11,false)] [3] Tryz.mixed (by kernel_rfl) H<|Mx.q H (Qt.lw 0 A29 H H H) H<|Mx.r 2 H<|Mx.q H (Qt.lv 0 A84 H H H) H<|Mx.q H (Qt.lw 0 A29 H H H) H<|Mx.r 2 H<|Mx.q H (Qt.lv 0 A85 H H H) H<|Mx.r 1 H<|Mx.l H (Lo.ca call40 (qw_All N Z.q hN hS.q) [] H H (.own 5 H H .nil)) H ?_
 rintro v3 _ ⟨_,⟨o1,ho2,rfl⟩,rfl⟩
 have hol:=ho2.length_eq
 refine MxK.gp [4] [0] H H<|Mx.l H (Lo.ca call41 (sw_All N Z.ps hN hS.i.hl hS.i.hb) [] H H (.own 7 H H .nil)) H ?_
 rintro v4 _ ⟨_,rfl,rfl⟩
 refine MxK.gp [5] [0] H H<|Mx.l H (Lo.am 1 N52 info66 H H H H H (Src.row 0 H) Im.one (by first|omega|(have h2_:=hS.q.hl;have h3_:=hN.hq1;have h4_:=Nd.its_le hS.i.hb;have h5_:=hN.hw1;first|omega|(simp only [List.length_append] at *;omega))) (by first|omega|(have h2_:=hS.q.hl;have h3_:=hN.hq1;have h4_:=Nd.its_le hS.i.hb;have h5_:=hN.hw1;first|omega|(simp only [List.length_append] at *;omega)))) H ?_
 rintro V5 _ rfl
 refine MxK.gp [1,5] [1] H H<|Mx.q H (Qt.lenM U52 H (Src.row 0 H)) H<|Mx.nil<|J.block ?_
 refine J.lo (X:=Nat×Value×List Ev) (fun (i,EV1,evs1)=>i≤(o1++Nd.its Z.ps).length∧evs1=((o1++Nd.its Z.ps).take i).map (fun x:Im=>(⟨12,Z.now,N.self,x.id,0,x.level,0⟩:Ev))) (fun (i,EV1,evs1)=>[(18,.int .i64 (i:Int))]) (fun (i,EV1,evs1)=>[var t [.pointer (some ⟨N.n,0,none⟩),EV1,Value.slice none 0 0] 261,row EV1 51 7 (evs1.map Ev.cells)]) (fun (i,EV1,evs1)=>(o1++Nd.its Z.ps).length-i) ⟨0,Value.slice none 0 0,[]⟩ [0,1,3,16,17] [2,3] [4,1,5,6,7,8,9,10,11,12,13,14,15] ⟨by omega,rfl⟩ ⟨(eqi (by omega)),trivial⟩ H H ?_
 rintro ⟨i,EV1,evs1⟩ ⟨hi,hes⟩
 refine J.cc 5 H ?_
 refine J.cd H (fun p6=>?_) (fun p6=>?_)
 ·
  refine J.co 5 H ?_
  obtain ⟨e7,he7⟩:=ex_at (l:=o1++(Nd.its Z.ps)) (i:=i) (by omega)
  refine O.q (Qt.ix U52 Z66 H (Src.row 3 H) he7 H (by rfl)) H<|O.q (Qt.lea A66 Z66 (Src.row 3 H) he7 0 H (by omega) H) H<|O.l (Lo.al Y66 H) H ?_
  rintro _ _ ⟨g8,rfl,rfl⟩
  refine O.l0 (Lo.st 0 Z66 H H H H H H H) ?_
  rintro _ _ rfl
  refine O.oo 4 H<|O.q (Qt.lv 0 A3 H H H) H<|O.oo 1 H<|O.q (Qt.lv 0 A3 H H H) H<|O.l (Lo.ca C80 (te_event N Z.now Z.ver Z.many Z.calls t EV1 (Value.slice none 0 0) evs1 12 e7.id 0 e7.level 0 (by first|omega|(have h1_:=congrArg List.length hes;simp only [List.length_map,List.length_take,List.length_append] at h1_;have h2_:=hS.q.hl;have h3_:=hN.hq1;have h4_:=Nd.its_le hS.i.hb;have h5_:=hN.hw1;omega))) [1,2] H H (.own 5 H H .nil)) H ?_
  rintro _ _ ⟨_,⟨E9,rfl,rfl⟩,rfl⟩
  refine O.oo 3 H<|O.p (Pu.add' H H (by first|omega|(have h2_:=hS.q.hl;have h3_:=hN.hq1;have h4_:=Nd.its_le hS.i.hb;have h5_:=hN.hw1;simp only [List.length_append] at *;omega))) H<|O.oc 2 H ?_
  exact J.lq ⟨i+1,E9,evs1++[(⟨12,Z.now,N.self,e7.id,0,e7.level,0⟩:Ev)]⟩ [0,1,3,16,17] [0,1] [3,4,5,6,7,8,9,10,11,12,13,14,15] ⟨by omega,(by rw [Nd.map_next he7,←hes])⟩ (by dsimp only;omega) ⟨(eqi (by omega)),trivial⟩ H H
 refine J.co 3 H<|O.q (Qt.lw 0 A29 H H H) H<|O.oo 2 H<|O.q (Qt.lv 4 A84 H H H) H<|O.l (Lo.ca call108 (qw_Clear N Z.q hN hS.q) [6] H H .nil) H ?_
 rintro _ _ ⟨_,⟨q11,hq12,ht13,rfl,rfl⟩,rfl⟩
 refine O.oo 3 H<|O.q (Qt.lw 0 A29 H H H) H<|O.oo 2 H<|O.q (Qt.lv 5 A85 H H H) H<|O.l (Lo.ca call109 (sw_Clear N Z.ps hS.i.hl) [7] H H .nil) H ?_
 rintro _ _ ⟨_,⟨rfl,rfl⟩,rfl⟩
 refine O.oo 3 H<|O.q (Qt.lw 0 A29 H H H) H<|O.oo 2 H<|O.q (Qt.lv 6 A86 H H H) H<|O.l0 (Lo.mapClear 8 H N86 H H) ?_
 rintro _ _ rfl
 refine O.oc 2 H<|J.re (Re.trans (Re.sn [9,0,1,2,3,4,5,6,7,8,10,11,12,13,14] H) (Re.hd1 Re.none))<|J.region<|O.q (Qt.lw 0 A29 H H H) H<|O.oo 2 H<|O.q (Qt.lv 7 A87 H H H) H<|O.l (Lo.ca call110 (wt_Clear N.w Z.ws) [10] H H .nil) H ?_
 rintro _ _ ⟨_,⟨rfl,ws16,hr17,rfl⟩,rfl⟩
 refine O.oo 3 H<|O.q (Qt.lw 0 A29 H H H) H<|O.oo 2 H<|O.q (Qt.lv 8 isAgg88 H H H) H<|O.l (Lo.ca call111 (tb_Clear N.tb N.ttl Z.d) [12] H H .nil) H ?_
 rintro _ _ ⟨_,⟨rfl,rfl⟩,rfl⟩
 refine O.oo 3 H<|O.q (Qt.lw 0 A29 H H H) H<|O.oo 2 H<|O.q (Qt.lv 9 isAgg83 H H H) H<|O.l (Lo.ca call112 (sn_Clear N Z.sn hS.sn) [12] H H .nil) H ?_
 rintro _ _ ⟨_,⟨sn20,hsn21,hz22,hm23,rfl,rfl⟩,rfl⟩
 refine O.oo 3 H<|O.q (Qt.lw 0 A29 H H H) H<|O.oo 2 H<|O.q (Qt.lv 10 A82 H H H) H<|O.l (Lo.ca call113 (ct_Restart N Z.k hN hS.k) [11] H H .nil) H ?_
 rintro _ _ ⟨_,⟨k25,hk26,ha27,hb28,hc29,rfl,rfl⟩,rfl⟩
 refine O.oc 2 H<|J.drawHead 5 Tryz.mixed (by kernel_rfl)<|Hd.p (Pu.move H) H<|Hd.q (Qt.lw 0 A29 H H H) H<|Hd.call (vs:=[.pointer (some ⟨N.n,0,none⟩)]) (caps:=[]) (by exact call17) H H (nw_Epoch N Z.now Z.ver Z.many Z.calls k25) (fun _ _ h=>h) (RoOk.of 11 H same_rd [] (by decide) H (RoOk.of 0 H same_rd [] (by decide) H RoOk.nil)) H<|Hd.q (Qt.lw 0 A29 H H H) H<|Hd.call (vs:=[.pointer (some ⟨N.n,0,none⟩)]) (caps:=[]) (by exact call18) H H (nw_Threshold N Z.now Z.ver Z.many Z.calls k25) (fun _ _ h=>h) (RoOk.of 11 H same_rd [] (by decide) H (RoOk.of 0 H same_rd [] (by decide) H RoOk.nil)) H<|Hd.nil<|O.l (Lo.ca C80 (te_event N Z.now Z.ver Z.many Z.calls t EV1 (Value.slice none 0 0) evs1 11 k25.ep 0 k25.thr 0 (by first|omega|(have h1_:=congrArg List.length hes;simp only [List.length_map,List.length_take,List.length_append] at h1_;have h2_:=hS.q.hl;have h3_:=hN.hq1;have h4_:=Nd.its_le hS.i.hb;have h5_:=hN.hw1;omega))) [7,8] H H (.own 11 H H .nil)) H ?_
 rintro _ _ ⟨_,⟨E31,rfl,rfl⟩,rfl⟩
 refine O.oc 5 H ?_
 exact J.r1 [0,1,9,11,2,8,7,12,6,5,3,4,13,14] H H H ⟨(⟨Z.now,Z.ver,Z.many,Z.calls,k25,sn20,q11,(List.replicate 16 none),[],ws16,[],Sh.nil⟩:Nd.Sx),_,_,evs1++[(⟨11,Z.now,N.self,k25.ep,0,k25.thr,0⟩:Ev)],([]:List Fr),0,⟨⟨hk26,hsn21,hq12,Nd.In.zero hr17,(by rw [ht13,Nd.its_new];simp),hS.n0,hS.n1,hS.m0,hS.c0⟩,⟨by have h_:=hlt.m;dsimp only;omega,by have h_:=hlt.c;dsimp only;omega,by show 0≤_;omega,by omega⟩,⟨H,H,H,H,ht13,Nd.its_new,hz22,hm23,H,H,H,ha27,hb28,hc29,o1,ho2,(by rw [hes,Nd.map_all (l:=(o1++Nd.its Z.ps)) (k:=i) (by omega)])⟩⟩,H,H⟩
end Go.Proofs.YtohjlkjhpibkmaaGreatDoor
namespace Go.LK
structure Ad where
  kind:Int
  id:Int
  qi:Int
  qf:Int
  qt:Int
  ql:Int
  qd:Int
  qb:Int
  ri:Int
  rf:Int
  rt:Int
  rc:Int
  rh:Int
  re:Int
  rr:Int
  pt:Int
  pv:Int
  p0:Int
  p1:Int
  p2:Int
  p3:Int
  p4:Int
  p5:Int
  p6:Int
def Ad.cells (f:Ad):List Value:=[.int .i64 f.kind,.int .i64 f.id,.int .i64 f.qi,.int .i64 f.qf,.int .i64 f.qt,.int .i64 f.ql,.int .i64 f.qd,.int .i64 f.qb,.int .i64 f.ri,.int .i64 f.rf,.int .i64 f.rt,.int .i64 f.rc,.int .i64 f.rh,.int .i64 f.re,.int .i64 f.rr,.int .i64 f.pt,.int .i64 f.pv,.int .i64 f.p0,.int .i64 f.p1,.int .i64 f.p2,.int .i64 f.p3,.int .i64 f.p4,.int .i64 f.p5,.int .i64 f.p6]
namespace Nd
section
variable {N:Nc} {Z Z':Sx} {es:List Ev} {fs:List Fr} {e:Int}
theorem ReqR.err {a b c d f g:Int} (h:ReqR N Z a b c d f g Z' es fs e) (he:e≠0):es=[]∧fs=[]:=by
  rcases h with ⟨_,h⟩|⟨_,h,_⟩
  · exact ⟨h.es,h.fs⟩
  · exact absurd h he
theorem BrkR.err {id:Int} (h:BrkR N Z id Z' es fs e) (he:e≠0):es=[]∧fs=[]:=by
  rcases h with ⟨_,h⟩|⟨j,_,⟨_,h⟩|⟨_,h,_⟩⟩
  · exact ⟨h.es,h.fs⟩
  · exact ⟨h.es,h.fs⟩
  · exact absurd h he
theorem DonR.err {id:Int} (h:DonR N Z id Z' es fs e) (he:e≠0):es=[]∧fs=[]:=by
  rcases h with ⟨_,h⟩|⟨j,_,⟨_,h⟩|⟨_,h,_⟩⟩
  · exact ⟨h.es,h.fs⟩
  · exact ⟨h.es,h.fs⟩
  · exact absurd h he
theorem RepR.err {a b c d f g i:Int} (h:RepR N Z a b c d f g i Z' es fs e) (he:e≠0):es=[]∧fs=[]:=by
  rcases h with ⟨_,h⟩|⟨_,h,_⟩
  · exact ⟨h.es,h.fs⟩
  · exact absurd h he
theorem PusR.err {a b:Int} {l:List Int} (h:PusR N Z a b l Z' es fs e) (he:e≠0):es=[]∧fs=[]:=by
  rcases h with ⟨_,h⟩|⟨_,h,_⟩
  · exact ⟨h.es,h.fs⟩
  · exact absurd h he
theorem TicR.err (h:TicR N Z Z' es fs e) (he:e≠0):es=[]∧fs=[]:=absurd h.1 he
theorem RstR.err (h:RstR N Z Z' es fs e) (he:e≠0):es=[]∧fs=[]:=absurd h.1 he
end
def DoR (N:Nc) (Z:Sx) (a:Ad) (Z':Sx) (es:List Ev) (fs:List Fr) (e:Int):Prop :=
  (a.kind=0∧ReqR N Z a.qi a.qf a.qt a.ql a.qd a.qb Z' es fs e)∨(a.kind=1∧DonR N Z a.id Z' es fs e)∨(a.kind=2∧BrkR N Z a.id Z' es fs e) ∨
  (a.kind=3∧RepR N Z a.ri a.rf a.rt a.rc a.rh a.re a.rr Z' es fs e)∨(a.kind=4∧PusR N Z a.pt a.pv [a.p0,a.p1,a.p2,a.p3,a.p4,a.p5,a.p6] Z' es fs e) ∨
  (a.kind=5∧TicR N Z Z' es fs e)∨(a.kind=6∧RstR N Z Z' es fs e)∨(¬(0≤a.kind∧a.kind≤6)∧Z'=Z∧es=[]∧fs=[]∧e=0)
end Nd
end Go.LK
namespace Go.LK
structure Jo where
  x:Im
  ph:Int
  v:Value
  ok:v.oneCell'=true
def Jo.cells (j:Jo):List Value:=[.int .i64 j.x.id,.int .i64 j.x.level,.int .i64 j.x.from_,.int .i64 j.x.deadline,.int .i64 j.x.budget,.int .i64 j.x.since,.int .i64 j.x.seq,.int .i64 j.ph,j.v]
theorem Jo.one {l:List Jo}:∀ a∈l,(Jo.cells a).all Value.oneCell'=true:=fun a _=>by
  simp only [Jo.cells,List.all_cons,List.all_nil,a.ok];rfl
theorem J.bro {c:Cx} {k:List It} {E:Env} {L:List Sp} {A B:Sp} (i:Nat) (hi:c.Ro[i]?=some B) (hAB:∀ w,B.holds w→A.holds w∧∀ k∈A.foot,k∈B.foot) (h:J { c with Ro:=c.Ro++[A] } k E L):J c k E L:=fun ok a w ha hs =>
  h (fun C hC=>by
    rcases List.mem_append.1 hC with hC|hC
    · exact ok C hC
    · obtain rfl:=List.mem_singleton.1 hC
      obtain ⟨h1,h2⟩:=ok _ (List.mem_of_getElem? hi)
      obtain ⟨h3,h4⟩:=hAB _ h1
      exact ⟨h3,fun k hk=>h2 k (h4 k hk)⟩) a w ha hs
namespace Nd
structure Init (N:Nc) (Z:Sx) (b c sf:Int) (e:Sg):Prop where
  slf:N.self=sf
  lev:N.lev=Si.mulC b c
  wk:N.wk=e.x0
  qn:N.qn=e.x1
  tiers:N.tiers=e.x3
  calls:N.calls=e.cl
  now:Z.now=0
  ver:Z.ver=0
  many:Z.many=0
  cl:Z.calls=0
  thr:Z.k.thr=N.lev
  ep:Z.k.ep=1
  tier:Z.k.tier=N.tiers
  q:Z.q.t=[]
  qm:Z.q.m=[]
  ps:its Z.ps=[]
  jm:Z.jm=[]
  snm:Z.sn.m=[]
  snn:Z.sn.n=0
  wl:Z.wl=[]
  d:Z.d=Sh.nil
end Nd
end Go.LK
namespace Go.Proofs.YtohjlkjhpibkmaaGreatDoor
open Go Go.LK Go.Proofs.Tryz
set_option maxRecDepth 100000
set_option maxHeartbeats 4000000
theorem nw_Request (N:Nd.Nc) (Z:Nd.Sx) (n:Nat) (id fr to level dl bu:Int) (hN:N.Ok) (hS:Z.Ok N) (hlt:Z.Lt n) (hn:n≤9000):Tri prog 32 #[.pointer (some ⟨N.n,0,none⟩),.agg #[.int .i64 id,.int .i64 fr,.int .i64 to,.int .i64 level,.int .i64 dl,.int .i64 bu]] [] (ndA N Z) (fun v L'=>OutS N (fun S' es fs e=>S'.Ok N∧S'.Lt (n+1)∧Nd.ReqR N Z id fr to level dl bu S' es fs e) v L'):=by
 refine Tri.en func32 H ntmps32 H fun w0=>J.co 2 H<|O.l (Lo.bx H H) H ?_
 rintro _ _ ⟨g1,rfl,rfl⟩
 refine O.l (Lo.bx H H) H ?_
 rintro _ _ ⟨g2,rfl,rfl⟩
 refine O.l (Lo.al Y36 H) H ?_
 rintro _ _ ⟨g3,rfl,rfl⟩
 refine O.oo 4 H<|O.q (Qt.lv 2 A29 H H H) H<|O.p (Pu.makeFunc [.pointer (some ⟨g1,0,none⟩),.pointer (some ⟨g2,0,none⟩)] H) H<|O.l (Lo.ca call76 (nw_step N Z 77 [.pointer (some ⟨g1,0,none⟩),.pointer (some ⟨g2,0,none⟩)] [var g1 [.pointer (some ⟨N.n,0,none⟩)] 29,var g2 [.int .i64 id,.int .i64 fr,.int .i64 to,.int .i64 level,.int .i64 dl,.int .i64 bu] 41] (fun S' es fs e=>S'.Ok N∧S'.Lt (n+1)∧Nd.ReqR N Z id fr to level dl bu S' es fs e) call77 (fun t=>nw_Req1 t g1 g2 N Z n id fr to level dl bu hN hS hlt hn) (fun _ _ _ _ h_=>Nd.ReqR.err h_.2.2)) [3,4,5,6,7,8,9,10,11,12,13] H H (.own 2 H H (.own 1 H H .nil))) H ?_
 rintro _ _ ⟨_,⟨Z4,E5,F6,es7,fs8,e9,hR10,rfl,rfl⟩,rfl⟩
 refine O.oo 2 H ?_
 refine O.one (Src.row 0 H) (fun hV12=>?_)
 refine O.one (Src.row 1 H) (fun hV13=>?_)
 refine O.l0 (Lo.st 13 Z36 H H H H H (by simp only [List.all_cons,List.all_nil,Bool.and_true,hV12,hV13]<;>rfl) H) ?_
 rintro _ _ rfl
 refine O.oc 2 H ?_
 exact J.rn [_,_] [0,1,2,3,4,5,6,7,8,9,10,11,12] H ⟨⟨_,_,0,0,_,H,(Cel.var 13 H),H,(Cut.agg [E5,F6] A36 Z36 H H)⟩,H,trivial⟩ H ⟨Z4,_,_,es7,fs8,e9,hR10,H,H⟩
theorem nw_Reply (N:Nd.Nc) (Z:Nd.Sx) (n:Nat) (rid fr to code thr ep tier:Int) (hN:N.Ok) (hS:Z.Ok N) (hlt:Z.Lt n) (hn:n≤9000):Tri prog 35 #[.pointer (some ⟨N.n,0,none⟩),.agg #[.int .i64 rid,.int .i64 fr,.int .i64 to,.int .i64 code,.int .i64 thr,.int .i64 ep,.int .i64 tier]] [var 1 (Nd.rnames.map vS) 348] (ndA N Z) (fun v L'=>OutS N (fun S' es fs e=>S'.Ok N∧S'.Lt (n+1)∧Nd.RepR N Z rid fr to code thr ep tier S' es fs e) v L'):=by
 refine Tri.en func35 H ntmps35 H fun w0=>J.co 2 H<|O.l (Lo.bx H H) H ?_
 rintro _ _ ⟨g1,rfl,rfl⟩
 refine O.l (Lo.bx H H) H ?_
 rintro _ _ ⟨g2,rfl,rfl⟩
 refine O.l (Lo.al Y36 H) H ?_
 rintro _ _ ⟨g3,rfl,rfl⟩
 refine O.oo 4 H<|O.q (Qt.lv 2 A29 H H H) H<|O.p (Pu.makeFunc [.pointer (some ⟨g2,0,none⟩),.pointer (some ⟨g1,0,none⟩)] H) H<|O.l (Lo.ca call76 (nw_step N Z 90 [.pointer (some ⟨g2,0,none⟩),.pointer (some ⟨g1,0,none⟩)] [var g2 [.int .i64 rid,.int .i64 fr,.int .i64 to,.int .i64 code,.int .i64 thr,.int .i64 ep,.int .i64 tier] 43,var g1 [.pointer (some ⟨N.n,0,none⟩)] 29,var 1 (Nd.rnames.map vS) 348] (fun S' es fs e=>S'.Ok N∧S'.Lt (n+1)∧Nd.RepR N Z rid fr to code thr ep tier S' es fs e) call90 (fun t=>nw_Rep1 t g1 g2 N Z n rid fr to code thr ep tier hN hS hlt hn) (fun _ _ _ _ h_=>Nd.RepR.err h_.2.2)) [3,4,5,6,7,8,9,10,11,12,13] H H (.own 1 H H (.own 2 H H (.ro 0 H .nil)))) H ?_
 rintro _ _ ⟨_,⟨Z4,E5,F6,es7,fs8,e9,hR10,rfl,rfl⟩,rfl⟩
 refine O.oo 2 H ?_
 refine O.one (Src.row 0 H) (fun hV12=>?_)
 refine O.one (Src.row 1 H) (fun hV13=>?_)
 refine O.l0 (Lo.st 13 Z36 H H H H H (by simp only [List.all_cons,List.all_nil,Bool.and_true,hV12,hV13]<;>rfl) H) ?_
 rintro _ _ rfl
 refine O.oc 2 H ?_
 exact J.rn [_,_] [0,1,2,3,4,5,6,7,8,9,10,11,12] H ⟨⟨_,_,0,0,_,H,(Cel.var 13 H),H,(Cut.agg [E5,F6] A36 Z36 H H)⟩,H,trivial⟩ H ⟨Z4,_,_,es7,fs8,e9,hR10,H,H⟩
theorem nw_Push (N:Nd.Nc) (Z:Nd.Sx) (n:Nat) (to ver k0 k1 k2 k3 k4 k5 k6:Int) (hN:N.Ok) (hS:Z.Ok N) (hlt:Z.Lt n) (hn:n≤9000):Tri prog 36 #[.pointer (some ⟨N.n,0,none⟩),.agg #[.int .i64 to,.int .i64 ver,.int .i64 k0,.int .i64 k1,.int .i64 k2,.int .i64 k3,.int .i64 k4,.int .i64 k5,.int .i64 k6]] [var 0 (Nd.widths.map vI) 282] (ndA N Z) (fun v L'=>OutS N (fun S' es fs e=>S'.Ok N∧S'.Lt (n+1)∧Nd.PusR N Z to ver [k0,k1,k2,k3,k4,k5,k6] S' es fs e) v L'):=by
 refine Tri.en func36 H ntmps36 H fun w0=>J.co 2 H<|O.l (Lo.bx H H) H ?_
 rintro _ _ ⟨g1,rfl,rfl⟩
 refine O.l (Lo.bx H H) H ?_
 rintro _ _ ⟨g2,rfl,rfl⟩
 refine O.l (Lo.al Y36 H) H ?_
 rintro _ _ ⟨g3,rfl,rfl⟩
 refine O.oo 4 H<|O.q (Qt.lv 2 A29 H H H) H<|O.p (Pu.makeFunc [.pointer (some ⟨g2,0,none⟩),.pointer (some ⟨g1,0,none⟩)] H) H<|O.l (Lo.ca call76 (nw_step N Z 97 [.pointer (some ⟨g2,0,none⟩),.pointer (some ⟨g1,0,none⟩)] [var g2 [.int .i64 to,.int .i64 ver,.int .i64 k0,.int .i64 k1,.int .i64 k2,.int .i64 k3,.int .i64 k4,.int .i64 k5,.int .i64 k6] 47,var g1 [.pointer (some ⟨N.n,0,none⟩)] 29,var 0 (Nd.widths.map vI) 282] (fun S' es fs e=>S'.Ok N∧S'.Lt (n+1)∧Nd.PusR N Z to ver [k0,k1,k2,k3,k4,k5,k6] S' es fs e) call97 (fun t=>nw_Pus1 t g1 g2 N Z n to ver k0 k1 k2 k3 k4 k5 k6 hN hS hlt hn) (fun _ _ _ _ h_=>Nd.PusR.err h_.2.2)) [3,4,5,6,7,8,9,10,11,12,13] H H (.own 1 H H (.own 2 H H (.ro 0 H .nil)))) H ?_
 rintro _ _ ⟨_,⟨Z4,E5,F6,es7,fs8,e9,hR10,rfl,rfl⟩,rfl⟩
 refine O.oo 2 H ?_
 refine O.one (Src.row 0 H) (fun hV12=>?_)
 refine O.one (Src.row 1 H) (fun hV13=>?_)
 refine O.l0 (Lo.st 13 Z36 H H H H H (by simp only [List.all_cons,List.all_nil,Bool.and_true,hV12,hV13]<;>rfl) H) ?_
 rintro _ _ rfl
 refine O.oc 2 H ?_
 exact J.rn [_,_] [0,1,2,3,4,5,6,7,8,9,10,11,12] H ⟨⟨_,_,0,0,_,H,(Cel.var 13 H),H,(Cut.agg [E5,F6] A36 Z36 H H)⟩,H,trivial⟩ H ⟨Z4,_,_,es7,fs8,e9,hR10,H,H⟩
theorem nw_Tick (N:Nd.Nc) (Z:Nd.Sx) (n:Nat) (hN:N.Ok) (hS:Z.Ok N) (hlt:Z.Lt n) (hn:n≤9000):Tri prog 37 #[.pointer (some ⟨N.n,0,none⟩)] [] (ndA N Z) (fun v L'=>OutS N (fun S' es fs e=>S'.Ok N∧S'.Lt (n+1)∧Nd.TicR N Z S' es fs e) v L'):=by
 refine Tri.en func37 H ntmps37 H fun w0=>J.co 2 H<|O.l (Lo.bx H H) H ?_
 rintro _ _ ⟨g1,rfl,rfl⟩
 refine O.l (Lo.al Y36 H) H ?_
 rintro _ _ ⟨g2,rfl,rfl⟩
 refine O.oo 4 H<|O.q (Qt.lv 1 A29 H H H) H<|O.p (Pu.makeFunc [.pointer (some ⟨g1,0,none⟩)] H) H<|O.l (Lo.ca call76 (nw_step N Z 101 [.pointer (some ⟨g1,0,none⟩)] [var g1 [.pointer (some ⟨N.n,0,none⟩)] 29] (fun S' es fs e=>S'.Ok N∧S'.Lt (n+1)∧Nd.TicR N Z S' es fs e) call101 (fun t=>nw_Tic1 t g1 N Z n hN hS hlt hn) (fun _ _ _ _ h_=>Nd.TicR.err h_.2.2)) [2,3,4,5,6,7,8,9,10,11,12] H H (.own 1 H H .nil)) H ?_
 rintro _ _ ⟨_,⟨Z3,E4,F5,es6,fs7,e8,hR9,rfl,rfl⟩,rfl⟩
 refine O.oo 2 H ?_
 refine O.one (Src.row 0 H) (fun hV11=>?_)
 refine O.one (Src.row 1 H) (fun hV12=>?_)
 refine O.l0 (Lo.st 13 Z36 H H H H H (by simp only [List.all_cons,List.all_nil,Bool.and_true,hV11,hV12]<;>rfl) H) ?_
 rintro _ _ rfl
 refine O.oc 2 H ?_
 exact J.rn [_,_] [0,1,2,3,4,5,6,7,8,9,10,11,12] H ⟨⟨_,_,0,0,_,H,(Cel.var 13 H),H,(Cut.agg [E4,F5] A36 Z36 H H)⟩,H,trivial⟩ H ⟨Z3,_,_,es6,fs7,e8,hR9,H,H⟩
theorem nw_Restart (N:Nd.Nc) (Z:Nd.Sx) (n:Nat) (hN:N.Ok) (hS:Z.Ok N) (hlt:Z.Lt n) (hn:n≤9000):Tri prog 38 #[.pointer (some ⟨N.n,0,none⟩)] [] (ndA N Z) (fun v L'=>OutS N (fun S' es fs e=>S'.Ok N∧S'.Lt (n+1)∧Nd.RstR N Z S' es fs e) v L'):=by
 refine Tri.en func38 H ntmps38 H fun w0=>J.co 2 H<|O.l (Lo.bx H H) H ?_
 rintro _ _ ⟨g1,rfl,rfl⟩
 refine O.l (Lo.al Y36 H) H ?_
 rintro _ _ ⟨g2,rfl,rfl⟩
 refine O.oo 4 H<|O.q (Qt.lv 1 A29 H H H) H<|O.p (Pu.makeFunc [.pointer (some ⟨g1,0,none⟩)] H) H<|O.l (Lo.ca call76 (nw_step N Z 107 [.pointer (some ⟨g1,0,none⟩)] [var g1 [.pointer (some ⟨N.n,0,none⟩)] 29] (fun S' es fs e=>S'.Ok N∧S'.Lt (n+1)∧Nd.RstR N Z S' es fs e) call107 (fun t=>nw_Rst1 t g1 N Z n hN hS hlt hn) (fun _ _ _ _ h_=>Nd.RstR.err h_.2.2)) [2,3,4,5,6,7,8,9,10,11,12] H H (.own 1 H H .nil)) H ?_
 rintro _ _ ⟨_,⟨Z3,E4,F5,es6,fs7,e8,hR9,rfl,rfl⟩,rfl⟩
 refine O.oo 2 H ?_
 refine O.one (Src.row 0 H) (fun hV11=>?_)
 refine O.one (Src.row 1 H) (fun hV12=>?_)
 refine O.l0 (Lo.st 13 Z36 H H H H H (by simp only [List.all_cons,List.all_nil,Bool.and_true,hV11,hV12]<;>rfl) H) ?_
 rintro _ _ rfl
 refine O.oc 2 H ?_
 exact J.rn [_,_] [0,1,2,3,4,5,6,7,8,9,10,11,12] H ⟨⟨_,_,0,0,_,H,(Cel.var 13 H),H,(Cut.agg [E4,F5] A36 Z36 H H)⟩,H,trivial⟩ H ⟨Z3,_,_,es6,fs7,e8,hR9,H,H⟩
theorem nw_workbr (N:Nd.Nc) (Z:Nd.Sx) (n:Nat) (id:Int) (hN:N.Ok) (hS:Z.Ok N) (hlt:Z.Lt n) (hn:n≤9000):Tri prog 87 #[.pointer (some ⟨N.n,0,none⟩),.int .i64 id,.func (.func 89) #[.pointer (some ⟨N.n,0,none⟩)] #[]] [] (ndA N Z) (fun v L'=>OutS N (fun S' es fs e=>S'.Ok N∧S'.Lt (n+1)∧Nd.BrkR N Z id S' es fs e) v L'):=by
 refine Tri.en func87 H ntmps87 H fun w0=>J.co 2 H<|O.l (Lo.bx H H) H ?_
 rintro _ _ ⟨g1,rfl,rfl⟩
 refine O.l (Lo.bx H H) H ?_
 rintro _ _ ⟨g2,rfl,rfl⟩
 refine O.l (Lo.bx H H) H ?_
 rintro _ _ ⟨g3,rfl,rfl⟩
 refine O.l (Lo.al Y36 H) H ?_
 rintro _ _ ⟨g4,rfl,rfl⟩
 refine O.oo 4 H<|O.q (Qt.lv 3 A29 H H H) H<|O.p (Pu.makeFunc [.pointer (some ⟨g1,0,none⟩),.pointer (some ⟨g2,0,none⟩),.pointer (some ⟨g3,0,none⟩)] H) H<|O.l (Lo.ca call76 (nw_step N Z 189 [.pointer (some ⟨g1,0,none⟩),.pointer (some ⟨g2,0,none⟩),.pointer (some ⟨g3,0,none⟩)] [var g1 [.pointer (some ⟨N.n,0,none⟩)] 29,var g2 [.int .i64 id] 3,var g3 [.func (.func 89) #[.pointer (some ⟨N.n,0,none⟩)] #[]] 148] (fun S' es fs e=>S'.Ok N∧S'.Lt (n+1)∧Nd.BrkR N Z id S' es fs e) call189 (fun t=>nw_Wkbr t g1 g2 g3 N Z n id hN hS hlt hn) (fun _ _ _ _ h_=>Nd.BrkR.err h_.2.2)) [4,5,6,7,8,9,10,11,12,13,14] H H (.own 3 H H (.own 2 H H (.own 1 H H .nil)))) H ?_
 rintro _ _ ⟨_,⟨Z5,E6,F7,es8,fs9,e10,hR11,rfl,rfl⟩,rfl⟩
 refine O.oo 2 H ?_
 refine O.one (Src.row 0 H) (fun hV13=>?_)
 refine O.one (Src.row 1 H) (fun hV14=>?_)
 refine O.l0 (Lo.st 13 Z36 H H H H H (by simp only [List.all_cons,List.all_nil,Bool.and_true,hV13,hV14]<;>rfl) H) ?_
 rintro _ _ rfl
 refine O.oc 2 H ?_
 exact J.rn [_,_] [0,1,2,3,4,5,6,7,8,9,10,11,12] H ⟨⟨_,_,0,0,_,H,(Cel.var 13 H),H,(Cut.agg [E6,F7] A36 Z36 H H)⟩,H,trivial⟩ H ⟨Z5,_,_,es8,fs9,e10,hR11,H,H⟩
theorem nw_workca (N:Nd.Nc) (Z:Nd.Sx) (n:Nat) (id:Int) (hN:N.Ok) (hS:Z.Ok N) (hlt:Z.Lt n) (hn:n≤9000):Tri prog 87 #[.pointer (some ⟨N.n,0,none⟩),.int .i64 id,.func (.func 88) #[.pointer (some ⟨N.n,0,none⟩)] #[]] [] (ndA N Z) (fun v L'=>OutS N (fun S' es fs e=>S'.Ok N∧S'.Lt (n+1)∧Nd.DonR N Z id S' es fs e) v L'):=by
 refine Tri.en func87 H ntmps87 H fun w0=>J.co 2 H<|O.l (Lo.bx H H) H ?_
 rintro _ _ ⟨g1,rfl,rfl⟩
 refine O.l (Lo.bx H H) H ?_
 rintro _ _ ⟨g2,rfl,rfl⟩
 refine O.l (Lo.bx H H) H ?_
 rintro _ _ ⟨g3,rfl,rfl⟩
 refine O.l (Lo.al Y36 H) H ?_
 rintro _ _ ⟨g4,rfl,rfl⟩
 refine O.oo 4 H<|O.q (Qt.lv 3 A29 H H H) H<|O.p (Pu.makeFunc [.pointer (some ⟨g1,0,none⟩),.pointer (some ⟨g2,0,none⟩),.pointer (some ⟨g3,0,none⟩)] H) H<|O.l (Lo.ca call76 (nw_step N Z 189 [.pointer (some ⟨g1,0,none⟩),.pointer (some ⟨g2,0,none⟩),.pointer (some ⟨g3,0,none⟩)] [var g1 [.pointer (some ⟨N.n,0,none⟩)] 29,var g2 [.int .i64 id] 3,var g3 [.func (.func 88) #[.pointer (some ⟨N.n,0,none⟩)] #[]] 148] (fun S' es fs e=>S'.Ok N∧S'.Lt (n+1)∧Nd.DonR N Z id S' es fs e) call189 (fun t=>nw_Wkca t g1 g2 g3 N Z n id hN hS hlt hn) (fun _ _ _ _ h_=>Nd.DonR.err h_.2.2)) [4,5,6,7,8,9,10,11,12,13,14] H H (.own 3 H H (.own 2 H H (.own 1 H H .nil)))) H ?_
 rintro _ _ ⟨_,⟨Z5,E6,F7,es8,fs9,e10,hR11,rfl,rfl⟩,rfl⟩
 refine O.oo 2 H ?_
 refine O.one (Src.row 0 H) (fun hV13=>?_)
 refine O.one (Src.row 1 H) (fun hV14=>?_)
 refine O.l0 (Lo.st 13 Z36 H H H H H (by simp only [List.all_cons,List.all_nil,Bool.and_true,hV13,hV14]<;>rfl) H) ?_
 rintro _ _ rfl
 refine O.oc 2 H ?_
 exact J.rn [_,_] [0,1,2,3,4,5,6,7,8,9,10,11,12] H ⟨⟨_,_,0,0,_,H,(Cel.var 13 H),H,(Cut.agg [E6,F7] A36 Z36 H H)⟩,H,trivial⟩ H ⟨Z5,_,_,es8,fs9,e10,hR11,H,H⟩
theorem nw_Broken (N:Nd.Nc) (Z:Nd.Sx) (n:Nat) (id:Int) (hN:N.Ok) (hS:Z.Ok N) (hlt:Z.Lt n) (hn:n≤9000):Tri prog 34 #[.pointer (some ⟨N.n,0,none⟩),.int .i64 id] [] (ndA N Z) (fun v L'=>OutS N (fun S' es fs e=>S'.Ok N∧S'.Lt (n+1)∧Nd.BrkR N Z id S' es fs e) v L'):=by
 refine Tri.en func34 H ntmps34 H fun w0=>J.co 2 H<|O.l (Lo.al Y36 H) H ?_
 rintro _ _ ⟨g1,rfl,rfl⟩
 refine O.oo 7 H<|O.p (Pu.makeFuncB [.pointer (some ⟨N.n,0,none⟩)] [] H H) H<|O.l (Lo.ca call87 (nw_workbr N Z n id hN hS hlt hn) [1,2,3,4,5,6,7,8,9,10,11] H H .nil) H ?_
 rintro _ _ ⟨_,⟨Z2,E3,F4,es5,fs6,e7,hR8,rfl,rfl⟩,rfl⟩
 refine O.oo 2 H ?_
 refine O.one (Src.row 0 H) (fun hV10=>?_)
 refine O.one (Src.row 1 H) (fun hV11=>?_)
 refine O.l0 (Lo.st 13 Z36 H H H H H (by simp only [List.all_cons,List.all_nil,Bool.and_true,hV10,hV11]<;>rfl) H) ?_
 rintro _ _ rfl
 refine O.oc 2 H ?_
 exact J.rn [_,_] [0,1,2,3,4,5,6,7,8,9,10,11,12] H ⟨⟨_,_,0,0,_,H,(Cel.var 13 H),H,(Cut.agg [E3,F4] A36 Z36 H H)⟩,H,trivial⟩ H ⟨Z2,_,_,es5,fs6,e7,hR8,H,H⟩
theorem nw_Done (N:Nd.Nc) (Z:Nd.Sx) (n:Nat) (id:Int) (hN:N.Ok) (hS:Z.Ok N) (hlt:Z.Lt n) (hn:n≤9000):Tri prog 33 #[.pointer (some ⟨N.n,0,none⟩),.int .i64 id] [] (ndA N Z) (fun v L'=>OutS N (fun S' es fs e=>S'.Ok N∧S'.Lt (n+1)∧Nd.DonR N Z id S' es fs e) v L'):=by
 refine Tri.en func33 H ntmps33 H fun w0=>J.co 2 H<|O.l (Lo.al Y36 H) H ?_
 rintro _ _ ⟨g1,rfl,rfl⟩
 refine O.oo 7 H<|O.p (Pu.makeFuncB [.pointer (some ⟨N.n,0,none⟩)] [] H H) H<|O.l (Lo.ca call87 (nw_workca N Z n id hN hS hlt hn) [1,2,3,4,5,6,7,8,9,10,11] H H .nil) H ?_
 rintro _ _ ⟨_,⟨Z2,E3,F4,es5,fs6,e7,hR8,rfl,rfl⟩,rfl⟩
 refine O.oo 2 H ?_
 refine O.one (Src.row 0 H) (fun hV10=>?_)
 refine O.one (Src.row 1 H) (fun hV11=>?_)
 refine O.l0 (Lo.st 13 Z36 H H H H H (by simp only [List.all_cons,List.all_nil,Bool.and_true,hV10,hV11]<;>rfl) H) ?_
 rintro _ _ rfl
 refine O.oc 2 H ?_
 exact J.rn [_,_] [0,1,2,3,4,5,6,7,8,9,10,11,12] H ⟨⟨_,_,0,0,_,H,(Cel.var 13 H),H,(Cut.agg [E3,F4] A36 Z36 H H)⟩,H,trivial⟩ H ⟨Z2,_,_,es5,fs6,e7,hR8,H,H⟩
theorem l35_Do (N:Nd.Nc) (Z:Nd.Sx) (n:Nat) (a:Ad) (hN:N.Ok) (hS:Z.Ok N) (hlt:Z.Lt n) (hn:n≤9000):Tri prog 12 #[.pointer (some ⟨N.n,0,none⟩),.agg #[.int .i64 a.kind,.int .i64 a.id,.int .i64 a.qi,.int .i64 a.qf,.int .i64 a.qt,.int .i64 a.ql,.int .i64 a.qd,.int .i64 a.qb,.int .i64 a.ri,.int .i64 a.rf,.int .i64 a.rt,.int .i64 a.rc,.int .i64 a.rh,.int .i64 a.re,.int .i64 a.rr,.int .i64 a.pt,.int .i64 a.pv,.int .i64 a.p0,.int .i64 a.p1,.int .i64 a.p2,.int .i64 a.p3,.int .i64 a.p4,.int .i64 a.p5,.int .i64 a.p6]] [var 1 (Nd.rnames.map vS) 348,var 0 (Nd.widths.map vI) 282] (ndA N Z) (fun v L'=>OutS N (fun S' es fs e=>S'.Ok N∧S'.Lt (n+1)∧Nd.DoR N Z a S' es fs e) v L'):=by
 refine Tri.en func12 H ntmps12 H fun w0=>J.co 2 H<|O.l (Lo.bx H H) H ?_
 rintro _ _ ⟨g1,rfl,rfl⟩
 refine O.l (Lo.al Y36 H) H ?_
 rintro _ _ ⟨g2,rfl,rfl⟩
 refine O.oo 6 H<|O.q (Qt.lv 1 A3 H H H) H<|O.oc 7 H ?_
 refine J.cd H (fun p3=>?_) (fun p3=>?_)
 ·
  refine J.co 4 H<|O.q (Qt.lva 1 A41 Z41 H H H) H<|O.l (Lo.ca call32 (nw_Request N Z n a.qi a.qf a.qt a.ql a.qd a.qb hN hS hlt hn) [2,3,4,5,6,7,8,9,10,11,12] H H .nil) H ?_
  rintro _ _ ⟨_,⟨Z4,E5,F6,es7,fs8,e9,hR10,rfl,rfl⟩,rfl⟩
  refine O.oo 2 H ?_
  refine O.one (Src.row 0 H) (fun hV12=>?_)
  refine O.one (Src.row 1 H) (fun hV13=>?_)
  refine O.l0 (Lo.st 13 Z36 H H H H H (by simp only [List.all_cons,List.all_nil,Bool.and_true,hV12,hV13]<;>rfl) H) ?_
  rintro _ _ rfl
  refine O.oc 2 H ?_
  exact J.rn [_,_] [0,1,2,3,4,5,6,7,8,9,10,11,12] H ⟨⟨_,_,0,0,_,H,(Cel.var 13 H),H,(Cut.agg [E5,F6] A36 Z36 H H)⟩,H,trivial⟩ H ⟨Z4,_,_,es7,fs8,e9,⟨hR10.1,hR10.2.1,.inl ⟨of_decide_eq_true (decide_eq_true p3),hR10.2.2⟩⟩,H,H⟩
 refine J.cc 5 H ?_
 refine J.cd H (fun p14=>?_) (fun p14=>?_)
 ·
  refine J.co 4 H<|O.q (Qt.lv 1 A3 H H H) H<|O.l (Lo.ca call33 (nw_Done N Z n a.id hN hS hlt hn) [2,3,4,5,6,7,8,9,10,11,12] H H .nil) H ?_
  rintro _ _ ⟨_,⟨Z15,E16,F17,es18,fs19,e20,hR21,rfl,rfl⟩,rfl⟩
  refine O.oo 2 H ?_
  refine O.one (Src.row 0 H) (fun hV23=>?_)
  refine O.one (Src.row 1 H) (fun hV24=>?_)
  refine O.l0 (Lo.st 13 Z36 H H H H H (by simp only [List.all_cons,List.all_nil,Bool.and_true,hV23,hV24]<;>rfl) H) ?_
  rintro _ _ rfl
  refine O.oc 2 H ?_
  exact J.rn [_,_] [0,1,2,3,4,5,6,7,8,9,10,11,12] H ⟨⟨_,_,0,0,_,H,(Cel.var 13 H),H,(Cut.agg [E16,F17] A36 Z36 H H)⟩,H,trivial⟩ H ⟨Z15,_,_,es18,fs19,e20,⟨hR21.1,hR21.2.1,.inr (.inl ⟨of_decide_eq_true (decide_eq_true p14),hR21.2.2⟩)⟩,H,H⟩
 refine J.cc 5 H ?_
 refine J.cd H (fun p25=>?_) (fun p25=>?_)
 ·
  refine J.co 4 H<|O.q (Qt.lv 1 A3 H H H) H<|O.l (Lo.ca call34 (nw_Broken N Z n a.id hN hS hlt hn) [2,3,4,5,6,7,8,9,10,11,12] H H .nil) H ?_
  rintro _ _ ⟨_,⟨Z26,E27,F28,es29,fs30,e31,hR32,rfl,rfl⟩,rfl⟩
  refine O.oo 2 H ?_
  refine O.one (Src.row 0 H) (fun hV34=>?_)
  refine O.one (Src.row 1 H) (fun hV35=>?_)
  refine O.l0 (Lo.st 13 Z36 H H H H H (by simp only [List.all_cons,List.all_nil,Bool.and_true,hV34,hV35]<;>rfl) H) ?_
  rintro _ _ rfl
  refine O.oc 2 H ?_
  exact J.rn [_,_] [0,1,2,3,4,5,6,7,8,9,10,11,12] H ⟨⟨_,_,0,0,_,H,(Cel.var 13 H),H,(Cut.agg [E27,F28] A36 Z36 H H)⟩,H,trivial⟩ H ⟨Z26,_,_,es29,fs30,e31,⟨hR32.1,hR32.2.1,.inr (.inr (.inl ⟨of_decide_eq_true (decide_eq_true p25),hR32.2.2⟩))⟩,H,H⟩
 refine J.cc 5 H ?_
 refine J.cd H (fun p36=>?_) (fun p36=>?_)
 ·
  refine J.co 4 H<|O.q (Qt.lva 1 isAgg43 Z43 H H H) H<|O.l (Lo.ca call35 (nw_Reply N Z n a.ri a.rf a.rt a.rc a.rh a.re a.rr hN hS hlt hn) [2,3,4,5,6,7,8,9,10,11,12] H H (.ro 0 H .nil)) H ?_
  rintro _ _ ⟨_,⟨Z37,E38,F39,es40,fs41,e42,hR43,rfl,rfl⟩,rfl⟩
  refine O.oo 2 H ?_
  refine O.one (Src.row 0 H) (fun hV45=>?_)
  refine O.one (Src.row 1 H) (fun hV46=>?_)
  refine O.l0 (Lo.st 13 Z36 H H H H H (by simp only [List.all_cons,List.all_nil,Bool.and_true,hV45,hV46]<;>rfl) H) ?_
  rintro _ _ rfl
  refine O.oc 2 H ?_
  exact J.rn [_,_] [0,1,2,3,4,5,6,7,8,9,10,11,12] H ⟨⟨_,_,0,0,_,H,(Cel.var 13 H),H,(Cut.agg [E38,F39] A36 Z36 H H)⟩,H,trivial⟩ H ⟨Z37,_,_,es40,fs41,e42,⟨hR43.1,hR43.2.1,.inr (.inr (.inr (.inl ⟨of_decide_eq_true (decide_eq_true p36),hR43.2.2⟩)))⟩,H,H⟩
 refine J.cc 5 H ?_
 refine J.cd H (fun p47=>?_) (fun p47=>?_)
 ·
  refine J.co 4 H<|O.q (Qt.lva 1 isAgg47 sizeOf47 H H H) H<|O.l (Lo.ca call36 (nw_Push N Z n a.pt a.pv a.p0 a.p1 a.p2 a.p3 a.p4 a.p5 a.p6 hN hS hlt hn) [2,3,4,5,6,7,8,9,10,11,12] H H (.ro 1 H .nil)) H ?_
  rintro _ _ ⟨_,⟨Z48,E49,F50,es51,fs52,e53,hR54,rfl,rfl⟩,rfl⟩
  refine O.oo 2 H ?_
  refine O.one (Src.row 0 H) (fun hV56=>?_)
  refine O.one (Src.row 1 H) (fun hV57=>?_)
  refine O.l0 (Lo.st 13 Z36 H H H H H (by simp only [List.all_cons,List.all_nil,Bool.and_true,hV56,hV57]<;>rfl) H) ?_
  rintro _ _ rfl
  refine O.oc 2 H ?_
  exact J.rn [_,_] [0,1,2,3,4,5,6,7,8,9,10,11,12] H ⟨⟨_,_,0,0,_,H,(Cel.var 13 H),H,(Cut.agg [E49,F50] A36 Z36 H H)⟩,H,trivial⟩ H ⟨Z48,_,_,es51,fs52,e53,⟨hR54.1,hR54.2.1,.inr (.inr (.inr (.inr (.inl ⟨of_decide_eq_true (decide_eq_true p47),hR54.2.2⟩))))⟩,H,H⟩
 refine J.cc 5 H ?_
 refine J.cd H (fun p58=>?_) (fun p58=>?_)
 ·
  refine J.co 3 H<|O.l (Lo.ca call37 (nw_Tick N Z n hN hS hlt hn) [2,3,4,5,6,7,8,9,10,11,12] H H .nil) H ?_
  rintro _ _ ⟨_,⟨Z59,E60,F61,es62,fs63,e64,hR65,rfl,rfl⟩,rfl⟩
  refine O.oo 2 H ?_
  refine O.one (Src.row 0 H) (fun hV67=>?_)
  refine O.one (Src.row 1 H) (fun hV68=>?_)
  refine O.l0 (Lo.st 13 Z36 H H H H H (by simp only [List.all_cons,List.all_nil,Bool.and_true,hV67,hV68]<;>rfl) H) ?_
  rintro _ _ rfl
  refine O.oc 2 H ?_
  exact J.rn [_,_] [0,1,2,3,4,5,6,7,8,9,10,11,12] H ⟨⟨_,_,0,0,_,H,(Cel.var 13 H),H,(Cut.agg [E60,F61] A36 Z36 H H)⟩,H,trivial⟩ H ⟨Z59,_,_,es62,fs63,e64,⟨hR65.1,hR65.2.1,.inr (.inr (.inr (.inr (.inr (.inl ⟨of_decide_eq_true (decide_eq_true p58),hR65.2.2⟩)))))⟩,H,H⟩
 refine J.cc 5 H ?_
 refine J.cd H (fun p69=>?_) (fun p69=>?_)
 ·
  refine J.co 3 H<|O.l (Lo.ca call38 (nw_Restart N Z n hN hS hlt hn) [2,3,4,5,6,7,8,9,10,11,12] H H .nil) H ?_
  rintro _ _ ⟨_,⟨Z70,E71,F72,es73,fs74,e75,hR76,rfl,rfl⟩,rfl⟩
  refine O.oo 2 H ?_
  refine O.one (Src.row 0 H) (fun hV78=>?_)
  refine O.one (Src.row 1 H) (fun hV79=>?_)
  refine O.l0 (Lo.st 13 Z36 H H H H H (by simp only [List.all_cons,List.all_nil,Bool.and_true,hV78,hV79]<;>rfl) H) ?_
  rintro _ _ rfl
  refine O.oc 2 H ?_
  exact J.rn [_,_] [0,1,2,3,4,5,6,7,8,9,10,11,12] H ⟨⟨_,_,0,0,_,H,(Cel.var 13 H),H,(Cut.agg [E71,F72] A36 Z36 H H)⟩,H,trivial⟩ H ⟨Z70,_,_,es73,fs74,e75,⟨hR76.1,hR76.2.1,.inr (.inr (.inr (.inr (.inr (.inr (.inl ⟨of_decide_eq_true (decide_eq_true p69),hR76.2.2⟩))))))⟩,H,H⟩
 refine J.co 4 H<|O.p (Pu.build [] [Value.slice none 0 0,Value.slice none 0 0] #[(0,1),(1,1)] runUnderlying36 Y36 (places36 underlying36) H (by kernel_rfl)) H<|O.l0 (Lo.st 0 Z36 H H H H H H H) ?_
 rintro _ _ rfl
 refine O.oc 2 H<|J.nr 51 7 (([]:List Ev).map Ev.cells) H<|J.nr 62 23 (([]:List Fr).map Fr.cells) H ?_
 exact J.rn [_,_] [1,0,4,5,6,7,8,9,10,11,12,13,14] H ⟨⟨_,_,0,0,_,H,(Cel.var 2 H),H,(Cut.agg [Value.slice none 0 0,Value.slice none 0 0] A36 Z36 H H)⟩,H,trivial⟩ H ⟨Z,_,_,[],[],0,⟨hS,hlt.up hn,.inr (.inr (.inr (.inr (.inr (.inr (.inr ⟨by omega,rfl,rfl,rfl,rfl⟩))))))⟩,H,H⟩
theorem nw_Queue (N:Nd.Nc) (Z:Nd.Sx) (hN:N.Ok) (hS:Z.Ok N):Tri prog 13 #[.pointer (some ⟨N.n,0,none⟩)] [var N.n (Nd.nC N Z.now Z.ver Z.many Z.calls) 90,qu N Z.q] [] (fun v L'=>∃ o:List Im,o.Perm Z.q.t∧L'=[row v 66 7 (o.map Im.cells)]):=by
 refine Tri.en func13 H ntmps13 H fun w0=>J.co 8 H<|O.l (Lo.ca call39 (nw_made N Z.now Z.ver Z.many Z.calls) [] H H (.ro 0 H .nil)) H ?_
 rintro _ _ ⟨_,⟨rfl,rfl⟩,rfl⟩
 refine O.oo 9 H<|O.q (Qt.lw 0 A84 H H H) H<|O.l (Lo.ca call40 (qw_All N Z.q hN hS.q) [] H H (.ro 1 H .nil)) H ?_
 rintro v4 _ ⟨_,⟨o2,ho3,rfl⟩,rfl⟩
 have hol:=ho3.length_eq
 refine O.oc 2 H ?_
 exact J.r1 [0] H H H ⟨o2,ho3,H⟩
theorem nw_Jobs (N:Nd.Nc) (Z:Nd.Sx) (hN:N.Ok) (hS:Z.Ok N):Tri prog 14 #[.pointer (some ⟨N.n,0,none⟩)] [var N.n (Nd.nC N Z.now Z.ver Z.many Z.calls) 90,sl N Z.ps,mi N.jb Nd.jobV Z.jm,bun (Nd.nRows 3 Z.jm)] [] (fun v L'=>∃ l:List Jo,l.map Jo.x=Nd.its Z.ps∧L'=[row v 68 9 (l.map Jo.cells)]):=by
 refine Tri.en func14 H ntmps14 H fun w0=>J.co 8 H<|O.l (Lo.ca call39 (nw_made N Z.now Z.ver Z.many Z.calls) [] H H (.ro 0 H .nil)) H ?_
 rintro _ _ ⟨_,⟨rfl,rfl⟩,rfl⟩
 refine O.oc 10 H<|J.nr 68 9 (([]:List Jo).map Jo.cells) H<|J.co 4 H<|O.q (Qt.lw 0 A85 H H H) H<|O.l (Lo.ca call41 (sw_All N Z.ps hN hS.i.hl hS.i.hb) [] H H (.ro 1 H .nil)) H ?_
 rintro v2 _ ⟨_,rfl,rfl⟩
 refine O.q (Qt.lenM U52 H (Src.row 0 H)) H<|O.oc 3 H ?_
 refine J.lo (X:=Nat×Value×List Jo) (fun (i,W,l)=>i≤(Nd.its Z.ps).length∧l.map Jo.x=(Nd.its Z.ps).take i) (fun (i,W,l)=>[(3,W),(16,.int .i64 (i:Int))]) (fun (i,W,l)=>[row W 68 9 (l.map Jo.cells)]) (fun (i,W,l)=>(Nd.its Z.ps).length-i) ⟨0,Value.slice none 0 0,[]⟩ [0,2,14,15] [1] [0] ⟨by omega,rfl⟩ ⟨H,(eqi (by omega)),trivial⟩ H H ?_
 rintro ⟨i,W,l⟩ ⟨hi,hst⟩
 refine J.cc 5 H ?_
 refine J.cd H (fun p3=>?_) (fun p3=>?_)
 ·
  refine J.co 5 H ?_
  obtain ⟨e4,he4⟩:=ex_at (l:=Nd.its Z.ps) (i:=i) (by omega)
  refine O.q (Qt.ix U52 Z66 H (Src.row 1 H) he4 H (by rfl)) H<|O.q (Qt.lea A66 Z66 (Src.row 1 H) he4 0 H (by omega) H) H<|O.l (Lo.al Y66 H) H ?_
  rintro _ _ ⟨g5,rfl,rfl⟩
  refine O.l0 (Lo.st 0 Z66 H H H H H H H) ?_
  rintro _ _ rfl
  refine O.oc 2 H ?_
  obtain ⟨j,hj,hjx⟩:=hS.i.j.has e4 (List.mem_of_getElem? he4)
  refine J.drawNew 8 7 6 [.int .i64 0,.int .i64 0,.int .i64 0,.int .i64 0,.int .i64 0,.int .i64 0,.int .i64 0,.int .i64 0,Value.slice none 0 0] Tryz.mixed (by kernel_rfl) H H (by exact Y68) H<|Hd.p (Pu.move H) H<|Hd.p (Pu.nilCheck H) H<|Hd.p (Pu.fieldAddr (off':=28) U90 H sizeOf86 H H H) H<|Hd.q (Qt.lw 0 A86 H H H) H<|Hd.p (Pu.fieldAddr (off':=0) U66 H Z3 H H H) H<|Hd.q (Qt.lv 0 A3 H H H) H<|Hd.q (Qt.lkI (V:=.agg #[.int .i64 e4.id,.int .i64 e4.level,.int .i64 e4.from_,.int .i64 e4.deadline,.int .i64 e4.budget,.int .i64 e4.since,.int .i64 e4.seq,.int .i64 j.ph,j.v]) N86 N3 Y68 H H (Mc.ro 2 N.jb H H) (by rw [hj,←hjx];rfl)) H<|Hd.new H<|Hd.nil ?_
  intro g6
  refine O.l0 (Lo.st 0 Z68 H H H H H (by simp only [List.all_cons,List.all_nil,Bool.and_true,(hS.i.j.one hj)]<;>rfl) H) ?_
  rintro _ _ rfl
  refine O.oc 2 H<|J.bro 3 H (Nd.nRows_rd hj)<|J.region<|O.l (Lo.buildE encZ U60 Z3) H ?_
  rintro V7 _ rfl
  refine O.oo 1 H<|O.q (Qt.lv 1 A60 H H H) H<|O.l (Lo.am 0 N60 info3 H H H H H (Src.ro 4 H) encZ.one (by first|omega|(have h3_:=Nd.its_le hS.i.hb;have h4_:=hN.hw1;first|omega|(have h5_:=congrArg List.length hst;simp only [List.length_map,List.length_take] at h5_;simp only [List.length_append,List.length_cons,List.length_nil];omega)|(have h5_:=(hS.i.j.job _ _ hj).2.2.nl;simp only [List.length_append,List.length_cons,List.length_nil];omega))) (by first|omega|(have h3_:=Nd.its_le hS.i.hb;have h4_:=hN.hw1;first|omega|(have h5_:=congrArg List.length hst;simp only [List.length_map,List.length_take] at h5_;simp only [List.length_append,List.length_cons,List.length_nil];omega)|(have h5_:=(hS.i.j.job _ _ hj).2.2.nl;simp only [List.length_append,List.length_cons,List.length_nil];omega)))) H ?_
  rintro V8 _ rfl
  refine O.oo 1 H ?_
  refine O.one (Src.row 0 H) (fun hV9=>?_)
  refine O.l0 (Lo.so 1 Z60 hV9 H H H H) ?_
  rintro _ _ rfl
  refine O.nil ?_
  refine J.one (Src.row 0 H) (fun hV10=>?_)
  refine J.co 2 H<|O.q (Qt.lva 1 A68 Z68 H H H) H<|O.l (Lo.bm Jo.cells [(⟨e4,j.ph,V8,hV10⟩:Jo)] runUnderlying57 Z68 Y68 H H H (by cases V8<;>first|(simp [Value.oneCell'] at hV10;done)|kernel_rfl) H H) H ?_
  rintro V11 _ rfl
  refine O.l (Lo.am 4 underlying57 info68 H H H H H (Src.row 0 H) Jo.one (by first|omega|(have h3_:=Nd.its_le hS.i.hb;have h4_:=hN.hw1;first|omega|(have h5_:=congrArg List.length hst;simp only [List.length_map,List.length_take] at h5_;simp only [List.length_append,List.length_cons,List.length_nil];omega)|(have h5_:=(hS.i.j.job _ _ hj).2.2.nl;simp only [List.length_append,List.length_cons,List.length_nil];omega))) (by first|omega|(have h3_:=Nd.its_le hS.i.hb;have h4_:=hN.hw1;first|omega|(have h5_:=congrArg List.length hst;simp only [List.length_map,List.length_take] at h5_;simp only [List.length_append,List.length_cons,List.length_nil];omega)|(have h5_:=(hS.i.j.job _ _ hj).2.2.nl;simp only [List.length_append,List.length_cons,List.length_nil];omega)))) H ?_
  rintro V12 _ rfl
  refine O.oo 4 H<|O.p (Pu.add' H H (by first|omega|(have h3_:=Nd.its_le hS.i.hb;have h4_:=hN.hw1;omega))) H<|O.oc 2 H ?_
  exact J.lq ⟨i+1,V12,l++([(⟨e4,j.ph,V8,hV10⟩:Jo)])⟩ [0,2,14,15] [4] [5] ⟨by omega,(by rw [List.map_append,hst,List.take_add_one,he4];rfl)⟩ (by dsimp only;omega) ⟨H,(eqi (by omega)),trivial⟩ H H
 refine J.cc 6 H ?_
 exact J.r1 [0] H H H ⟨_,(by rw [hst,List.take_of_length_le (by omega)]),H⟩
end Go.Proofs.YtohjlkjhpibkmaaGreatDoor
namespace Go.LK.Nd
open Go Go.LK
structure NewF (b c:Int) (l:List Sg) (e:Sg):Prop where
  bc0:1≤Si.mulC b c
  bc1:Si.mulC b c≤128
  w0:1≤e.x0
  w1:e.x0≤16
  q0:1≤e.x1
  q1:e.x1≤64
  i0:1≤e.x2
  i1:e.x2≤64
  t0:0≤e.x3
  t1:e.x3≤7
  s0:0≤e.x4
  s1:e.x4≤256
  l0:0≤e.x5
  l1:e.x5≤1099511627776
  cl:e.cl.length≤6
  n8:l.length≤8
  kn:Kn.check [e.x6,e.x7,e.x8,e.x9,e.x10,e.x11,e.x12] (Si.mulC b c)=0
theorem keep_in {n m:Int} (h0:0≤n) (h1:n≤m):Si.keep n m=n:=by unfold Si.keep;(repeat' split)<;>omega
theorem mulC_id {b c:Int} (h:Si.okL b c=true):Si.mulC b c=b*c:=by
  have h1:=Si.mul_bnd h
  obtain ⟨h2,h3,h4,h5⟩:=Si.okL_iff.1 h
  unfold Si.mulC
  rw [keep_in (n:=b) (by omega) (by omega),keep_in (n:=c) (by omega) (by omega)]
  have hw:IntKind.i64.wrap (b*c)=b*c:=in_i64 (by omega)
  rw [hw,keep_in (by omega) (by omega)]
theorem new_facts {b c r self:Int} {l:List Sg} {e:Sg} (h:Si.chk b c r l=0) (h0:0≤self) (h1:self < (l.length:Int)) (he:l[self.toNat]?=some e):NewF b c l e:=by
  unfold Si.chk at h
  split at h
  · rename_i hh
    simp only [Bool.and_eq_true,decide_eq_true_eq] at hh
    obtain ⟨⟨⟨hL,_⟩,_⟩,hN⟩:=hh
    have hc:Cf.check e.nums e.cl self (l.length:Int) (b*c)=0:=by
      unfold Si.chkN at hN
      rw [List.all_eq_true] at hN
      have h2:=hN self.toNat (List.mem_range.2 (by omega))
      rw [he] at h2
      simp only [decide_eq_true_eq] at h2
      rwa [show ((self.toNat:Nat):Int)=self from by omega] at h2
    have hm:=Si.check_many hc
    unfold Cf.check at hc
    split at hc
    · rename_i hq
      simp only [Bool.and_eq_true] at hq
      obtain ⟨⟨_,hr⟩,hk⟩:=hq
      have hbc:=mulC_id hL
      have hb:=Si.mul_bnd hL
      simp only [Cf.roomOk,Sg.nums,Bool.and_eq_true] at hr
      obtain ⟨⟨⟨⟨⟨r0,r1⟩,r2⟩,r3⟩,r4⟩,r5⟩:=hr
      have r0:=Cf.from_bnd r0;have r1:=Cf.from_bnd r1;have r2:=Cf.from_bnd r2;have r3:=Cf.from_bnd r3;have r4:=Cf.from_bnd r4;have r5:=Cf.from_bnd r5
      unfold Cf.callsOk at hk
      simp only [Bool.and_eq_true,decide_eq_true_eq] at hk
      refine ⟨by omega,by omega,r0.1,r0.2,r1.1,r1.2,r2.1,r2.2,r3.1,r3.2,r4.1,r4.2,r5.1,r5.2,hk.1,by omega,?_⟩
      rw [hbc];simpa [Sg.nums] using hc
    · cases hc
  · cases h
noncomputable def newB (b c r:Int) (l:List Sg) (self:Int):Bool:=decide (Si.chk b c r l=0)&&decide (0≤self)&&decide (self < (l.length:Int))
theorem newB_iff {b c r:Int} {l:List Sg} {self:Int}:newB b c r l self=true↔Si.chk b c r l=0∧0≤self∧self < (l.length:Int):=by
  unfold newB;simp [and_assoc]
end Go.LK.Nd
