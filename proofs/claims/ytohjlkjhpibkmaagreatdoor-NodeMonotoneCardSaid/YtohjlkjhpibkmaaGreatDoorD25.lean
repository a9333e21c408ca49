/-
  Walks, printed by a program of mine.
-/
import Derived.KernelRfl
import Derived.Test.YtohjlkjhpibkmaaGreatDoorD24
set_option linter.unusedSimpArgs false
set_option linter.unusedVariables false
namespace Go.Proofs.YtohjlkjhpibkmaaGreatDoor
open Go Go.LK Go.Proofs.Tryz
set_option maxRecDepth 100000
set_option maxHeartbeats 4000000
theorem te_call (N:Nd.Nc) (now ver many calls:Int) (t:Nat) (EV FV:Value) (evs:List Ev) (frs:List Fr) (x:Im) (to cd dl bu:Int) (rq:Bool) (hN:N.Ok) (hc0:0≤calls) (hc1:calls≤1000000) (he:evs.length≤99990) (hf:frs.length≤99990):Tri prog 192 #[.pointer (some ⟨t,0,none⟩),.agg #[.int .i64 x.id,.int .i64 x.level,.int .i64 x.from_,.int .i64 x.deadline,.int .i64 x.budget,.int .i64 x.since,.int .i64 x.seq],.agg #[.int .i64 to,.int .i64 cd,.int .i64 dl,.int .i64 bu,.bool rq]] [] [var t [.pointer (some ⟨N.n,0,none⟩),EV,FV] 261,row EV 51 7 (evs.map Ev.cells),row FV 62 23 (frs.map Fr.cells),var N.n (Nd.nC N now ver many calls) 90] (fun v L'=>∃ EV' FV',v=.int .i64 (Nd.callNo N calls)∧L'=[var t [.pointer (some ⟨N.n,0,none⟩),EV',FV'] 261,row EV' 51 7 ((evs++[(⟨5,now,N.self,x.id,0,to,Nd.callNo N calls⟩:Ev)]).map Ev.cells),row FV' 62 23 ((frs++[(⟨1,Nd.callNo N calls,N.self,to,x.level,dl,bu,0,0,0,0,0,0,0,0,0,0,0,0,0,0,0,0⟩:Fr)]).map Fr.cells),var N.n (Nd.nC N now ver many (calls+1)) 90]):=by
 refine Tri.en func192 H ntmps192 H fun w0=>J.co 2 H<|O.l (Lo.bx H H) H ?_
 rintro _ _ ⟨g1,rfl,rfl⟩
 refine O.l (Lo.bx H H) H ?_
 rintro _ _ ⟨g2,rfl,rfl⟩
 refine O.oo 7 H<|O.q (Qt.lv 2 A29 H H H) H<|O.oo 7 H<|O.q (Qt.lv 5 A3 H H H) H<|O.p (Pu.add' H H (by omega)) H<|O.oo 2 H<|O.l0 (Lo.st 5 Z3 H H H H H H H) ?_
 rintro _ _ rfl
 refine O.oc 2 H<|J.drawStill Tryz.mixed (by kernel_rfl)<|S.r 3 H<|S.q (Qt.lv 5 A3 H H H) H<|S.p (Pu.add' H H (by first|omega|(have h1_:=hN.hf0;have h2_:=hN.hf1;have h3_:=hN.hf2;omega))) H<|S.p (Pu.mul' H H (by first|omega|(have h1_:=hN.hf0;have h2_:=hN.hf1;have h3_:=hN.hf2;omega))) H<|S.r 3 H<|S.q (Qt.lv 5 A3 H H H) H<|S.p (Pu.rem' H H (by omega) (by omega)) H<|S.p (Pu.add' H H (by first|omega|(have h1_:=hN.hf0;have h2_:=hN.hf1;have h3_:=hN.hf2;omega))) H<|S.r 1 H<|S.endJ<|J.co 4 H<|O.q (Qt.lv 1 A3 H H H) H<|O.oo 1 H<|O.q (Qt.lv 0 A3 H H H) H<|O.oo 1 H<|O.l (Lo.ca C80 (te_event N now ver many (calls+1) t EV FV evs 5 x.id 0 to (((N.self+1)*1099511627776)+((calls+1)%1099511627776)) (by omega)) [2,3] H H (.own 5 H H .nil)) H ?_
 rintro _ _ ⟨_,⟨E3,rfl,rfl⟩,rfl⟩
 refine O.oc 2 H<|J.drawTail 16 Tryz.mixed (by kernel_rfl)<|S.r 5 H<|S.q (Qt.lv 5 A3 H H H) H<|S.r 1 H<|S.q (Qt.lv 2 A3 H H H) H<|S.r 1 H<|S.q (Qt.lv 3 A3 H H H) H<|S.r 1 H<|S.q (Qt.lv 2 A3 H H H) H<|S.r 1 H<|S.q (Qt.lv 2 A3 H H H) H<|S.p (Pu.build [(0,.int .i64 (((N.self+1)*1099511627776)+((calls+1)%1099511627776))),(1,.int .i64 N.self),(2,.int .i64 to),(3,.int .i64 x.level),(4,.int .i64 dl),(5,.int .i64 bu)] [.int .i64 (((N.self+1)*1099511627776)+((calls+1)%1099511627776)),.int .i64 N.self,.int .i64 to,.int .i64 x.level,.int .i64 dl,.int .i64 bu] #[(0,1),(1,1),(2,1),(3,1),(4,1),(5,1)] U41 Y41 (places41 N41) H (by kernel_rfl)) H<|S.p (Pu.build [(0,.int .i64 1),(1,.agg #[.int .i64 (((N.self+1)*1099511627776)+((calls+1)%1099511627776)),.int .i64 N.self,.int .i64 to,.int .i64 x.level,.int .i64 dl,.int .i64 bu])] [.int .i64 1,.int .i64 (((N.self+1)*1099511627776)+((calls+1)%1099511627776)),.int .i64 N.self,.int .i64 to,.int .i64 x.level,.int .i64 dl,.int .i64 bu,.int .i64 0,.int .i64 0,.int .i64 0,.int .i64 0,.int .i64 0,.int .i64 0,.int .i64 0,.int .i64 0,.int .i64 0,.int .i64 0,.int .i64 0,.int .i64 0,.int .i64 0,.int .i64 0,.int .i64 0,.int .i64 0] #[(0,1),(1,6),(7,7),(14,9)] runUnderlying62 zeroValue62 (places62 underlying62) H (by kernel_rfl)) H<|S.endO<|O.l (Lo.ca call180 (te_frame N t E3 FV frs (⟨1,((N.self+1)*1099511627776)+((calls+1)%1099511627776),N.self,to,x.level,dl,bu,0,0,0,0,0,0,0,0,0,0,0,0,0,0,0,0⟩:Fr) (by omega)) [0,4] H H .nil) H ?_
 rintro _ _ ⟨_,⟨F5,rfl,rfl⟩,rfl⟩
 refine O.oc 6 H ?_
 exact J.r1 [0,2,1,5] H H H ⟨_,_,H,H⟩
theorem nw_breaks (N:Nd.Nc) (now ver many calls:Int) (k:Nd.Kt) (t:Nat) (EV FV:Value) (evs:List Ev) (frs:List Fr) (ps:Nd.Pl) (jm:List (Int×Nd.Jb)) (ws:Ws) (wl:List Pr) (x:Im) (nv:Value) (hnv:Value.oneCell' nv=true) (hN:N.Ok) (hin:Nd.In N ps jm wl ws) (hx:x∈Nd.its ps) (he:evs.length≤99990) (hf:frs.length≤99990):Tri prog 89 #[.pointer (some ⟨N.n,0,none⟩),.pointer (some ⟨t,0,none⟩),.agg #[.int .i64 x.id,.int .i64 x.level,.int .i64 x.from_,.int .i64 x.deadline,.int .i64 x.budget,.int .i64 x.since,.int .i64 x.seq,.int .i64 1,nv]] [var N.n (Nd.nC N now ver many calls) 90,ct N k] [var t [.pointer (some ⟨N.n,0,none⟩),EV,FV] 261,row EV 51 7 (evs.map Ev.cells),row FV 62 23 (frs.map Fr.cells),sl N ps,mi N.jb Nd.jobV jm,bun (Nd.nRows 3 jm),wt 195 N.w ws] (fun v L'=>∃ EV' FV' ps' ws',v=.tuple #[]∧(Nd.its ps).Perm (x :: Nd.its ps')∧Nd.In N ps' (delI jm x.id) (Wt.drop wl x.id) ws'∧L'=[var t [.pointer (some ⟨N.n,0,none⟩),EV',FV'] 261,row EV' 51 7 ((evs++[Nd.endE now N.self (x,10)]).map Ev.cells),row FV' 62 23 ((frs++[Nd.endF N.self k (x,10)]).map Fr.cells),sl N ps',mi N.jb Nd.jobV (delI jm x.id),bun (Nd.nRows 3 (delI jm x.id)),wt 195 N.w ws']):=by
 refine Tri.en func89 H ntmps89 H fun w0=>J.co 2 H<|O.l (Lo.bx H H) H ?_
 rintro _ _ ⟨g1,rfl,rfl⟩
 refine O.oo 3 H<|O.q (Qt.lva 0 A68 Z68 H H H) H<|O.l (Lo.ca call195 (jb_Broken x.id x.level x.from_ x.deadline x.budget x.since x.seq nv hnv) [] H H .nil) H ?_
 rintro _ _ ⟨_,⟨rfl,rfl⟩,rfl⟩
 refine O.oo 10 H<|O.q (Qt.lv 0 A3 H H H) H<|O.oo 1 H<|O.l (Lo.ca C191 (te_over N now ver many calls k t EV FV evs frs ps jm ws wl x 10 hN hin hx (by omega) (by omega)) [1,2,3,4,5,6,7] H H (.ro 0 H (.ro 1 H .nil))) H ?_
 rintro _ _ ⟨_,⟨E3,F4,ps5,ws6,rfl,hp7,hin8,rfl⟩,rfl⟩
 refine O.nil ?_
 exact J.dn [] [0,1,2,3,4,5,6] H trivial H ⟨_,_,_,_,H,hp7,hin8,H⟩
theorem jb_HB (x0 x1 x2 x3 x4 x5 x6 ph:Int) (jv:Value) (l:List Int) (c code:Int) (hp:ph=2) (hl:l.length≤1000) (hm:c∈l) (hc:code≠1):Tri prog 201 #[.agg #[.int .i64 x0,.int .i64 x1,.int .i64 x2,.int .i64 x3,.int .i64 x4,.int .i64 x5,.int .i64 x6,.int .i64 ph,jv],.int .i64 c,.int .i64 code] [rd jv 1 (l.map encZ)] [] (fun v L'=>v=.tuple #[.agg #[.int .i64 0,.int .i64 0,.int .i64 0,.int .i64 0,.int .i64 0,.int .i64 0,.int .i64 0,.int .i64 0,Value.slice none 0 0],.int .i64 7]∧L'=[]):=by
 subst hp;exact jb_HeardBad x0 x1 x2 x3 x4 x5 x6 jv l c code hl hm hc
theorem jb_HE (x0 x1 x2 x3 x4 x5 x6 ph:Int) (jv:Value) (l:List Int) (c code:Int) (hp:ph=2) (hl:l.length≤1000) (hm:c∈l) (hc:code=1) (hu:Jb.Up l) (he:Jb.without l c=[]):Tri prog 201 #[.agg #[.int .i64 x0,.int .i64 x1,.int .i64 x2,.int .i64 x3,.int .i64 x4,.int .i64 x5,.int .i64 x6,.int .i64 ph,jv],.int .i64 c,.int .i64 code] [rd jv 1 (l.map encZ)] [] (fun v L'=>v=.tuple #[.agg #[.int .i64 0,.int .i64 0,.int .i64 0,.int .i64 0,.int .i64 0,.int .i64 0,.int .i64 0,.int .i64 0,Value.slice none 0 0],.int .i64 1]∧L'=[]):=by
 subst hp;subst hc;exact jb_HeardE x0 x1 x2 x3 x4 x5 x6 jv l c hl hm hu he
theorem jb_HN (x0 x1 x2 x3 x4 x5 x6 ph:Int) (jv:Value) (l:List Int) (c code:Int) (hp:ph=2) (hl:l.length≤1000) (hm:c∈l) (hc:code=1) (hu:Jb.Up l) (hne:Jb.without l c≠[]):Tri prog 201 #[.agg #[.int .i64 x0,.int .i64 x1,.int .i64 x2,.int .i64 x3,.int .i64 x4,.int .i64 x5,.int .i64 x6,.int .i64 ph,jv],.int .i64 c,.int .i64 code] [rd jv 1 (l.map encZ)] [] (fun v L'=>∃ V',v=.tuple #[.agg #[.int .i64 x0,.int .i64 x1,.int .i64 x2,.int .i64 x3,.int .i64 x4,.int .i64 x5,.int .i64 x6,.int .i64 2,V'],.int .i64 0]∧L'=[row V' 3 1 ((Jb.without l c).map encZ)]):=by
 subst hp;subst hc;exact jb_Heard x0 x1 x2 x3 x4 x5 x6 jv l c hl hm hu hne
theorem te_heard (N:Nd.Nc) (now ver many calls:Int) (k:Nd.Kt) (t:Nat) (EV FV:Value) (evs:List Ev) (frs:List Fr) (q:Nd.Qu) (ps:Nd.Pl) (jm:List (Int×Nd.Jb)) (ws:Ws) (wl:List Pr) (j:Nd.Jb) (rid fr to code thr ep tier:Int) (hN:N.Ok) (hk:k.Ok N) (hq:q.Ok N) (hin:Nd.In N ps jm wl ws) (hid:((q.t++Nd.its ps).map Im.id).Nodup) (hg:getI jm j.x.id=some j) (he:evs.length≤80000) (hf:frs.length≤80000):Tri prog 96 #[.pointer (some ⟨t,0,none⟩),.int .i64 j.x.id,.agg #[.int .i64 rid,.int .i64 fr,.int .i64 to,.int .i64 code,.int .i64 thr,.int .i64 ep,.int .i64 tier]] [var N.n (Nd.nC N now ver many calls) 90] [var t [.pointer (some ⟨N.n,0,none⟩),EV,FV] 261,row EV 51 7 (evs.map Ev.cells),row FV 62 23 (frs.map Fr.cells),ct N k,qu N q,sl N ps,mi N.jb Nd.jobV jm,bun (Nd.nRows 3 jm),wt 195 N.w ws] (fun v L'=>∃ k' q' ps' jm' ws' wl' EV' FV' evs' frs',v=.tuple #[]∧k'.Ok N∧k.Same k'∧q'.Ok N∧Nd.In N ps' jm' wl' ws'∧wl'.length≤wl.length∧Nd.HearR N now k q.t q'.t (Nd.its ps) (Nd.its ps') jm jm' evs evs' frs frs' j.x.id j∧L'=[var t [.pointer (some ⟨N.n,0,none⟩),EV',FV'] 261,row EV' 51 7 (evs'.map Ev.cells),row FV' 62 23 (frs'.map Fr.cells),ct N k',qu N q',sl N ps',mi N.jb Nd.jobV jm',bun (Nd.nRows 3 jm'),wt 195 N.w ws']):=by
 refine Tri.en func96 H ntmps96 H fun w0=>J.co 2 H<|O.l (Lo.bx H H) H ?_
 rintro _ _ ⟨g1,rfl,rfl⟩
 refine O.oo 6 H<|O.q (Qt.lv 1 A29 H H H) H<|O.oc 3 H ?_
 refine by_bool (decide (j.ph=2)) (fun h2=>?_) (fun h2=>?_)
 ·
  have p3:=of_decide_eq_true h2
  refine by_bool (decide (rid∈j.needs)) (fun h4=>?_) (fun h4=>?_)
  ·
   have p5:=of_decide_eq_true h4
   refine by_bool (decide (code=1)) (fun h6=>?_) (fun h6=>?_)
   ·
    have p7:=of_decide_eq_true h6
    refine by_bool (decide (Jb.without j.needs rid=[])) (fun h8=>?_) (fun h8=>?_)
    ·
     have p9:=of_decide_eq_true h8
     refine J.drawA Tryz.mixed ?_
     refine A.edge 10 14 H ?_ ?_
     ·
      refine A.mx [(0,false),(1,false),(2,false),(3,false),(4,false),(5,false),(6,false),(7,false),(8,false),(9,false),(14,true),(10,true),(11,false),(12,false),(13,false),(15,true),(16,false)] [0,7] (by kernel_rfl) H<|Mx.r 3 H<|Mx.q H (Qt.lw 0 A86 H H H) H<|Mx.r 1 H<|Mx.q H (Qt.lkI (V:=.agg #[.int .i64 j.x.id,.int .i64 j.x.level,.int .i64 j.x.from_,.int .i64 j.x.deadline,.int .i64 j.x.budget,.int .i64 j.x.since,.int .i64 j.x.seq,.int .i64 j.ph,j.v]) N86 N3 Y68 H H (Mc.own 1 N.jb H H) (by rw [hg];rfl)) H<|Mx.r 1 H<|Mx.q H (Qt.lv 0 A3 H H H) H<|Mx.r 1 H<|Mx.q H (Qt.lv 0 A3 H H H) H<|Mx.l H (Lo.al Y68 H) H ?_
      rintro _ _ ⟨g10,rfl,rfl⟩
      refine MxK.gp [1,8] [0,1] H H<|Mx.l H (Lo.ca C201 (jb_HE j.x.id j.x.level j.x.from_ j.x.deadline j.x.budget j.x.since j.x.seq j.ph j.v j.needs rid code (of_decide_eq_true h2) (by have h_:=(hin.j.job _ _ hg).2.2.nl;omega) (of_decide_eq_true h4) (of_decide_eq_true h6) (hin.j.job _ _ hg).2.2.up (of_decide_eq_true h8)) [] H H (.of 9 (Nd.nRows_rd hg) H H .nil)) H ?_
      rintro _ _ ⟨_,⟨rfl,rfl⟩,rfl⟩
      refine MxK.al [1,8] H (by kernel_rfl)<|Mx.r 3 H<|Mx.l0 H (Lo.st 0 Z68 H H H H H H H) ?_
      rintro _ _ rfl
      refine MxK.al [1,8] H (by kernel_rfl)<|Mx.r 1 H<|Mx.nil<|J.co 13 H<|O.l (Lo.ca C191 (te_over N now ver many calls k t EV FV evs frs ps jm ws wl j.x 1 hN hin (hin.j.job _ _ hg).1 (by first|omega|(simp only [List.length_append,List.length_cons,List.length_nil];omega)) (by first|omega|(simp only [List.length_append,List.length_cons,List.length_nil];omega))) [2,3,4,7,8,9,10] H H (.ro 0 H (.own 5 H H .nil))) H ?_
      rintro _ _ ⟨_,⟨E12,F13,ps14,ws15,rfl,hp16,hin17,rfl⟩,rfl⟩
      refine O.oo 3 H<|O.l (Lo.ca C86 (te_on N now ver many calls k t E12 F13 (evs++[Nd.endE now N.self (j.x,1)]) q ps14 (delI jm j.x.id) ws15 (Wt.drop wl j.x.id) hN hk hq hin17 (Nd.ids_less hid hp16) (by first|omega|(simp only [List.length_append,List.length_cons,List.length_nil];omega))) [0,1,9,10,3,4,5] H H (.ro 0 H .nil)) H ?_
      rintro _ _ ⟨_,⟨k19,q20,ps21,jm22,E23,es24,S25,rfl,hk26,hsm27,hq28,hin29,hon30,hfull31,rfl⟩,rfl⟩
      refine O.nil ?_
      exact J.dn [] [0,1,7,2,3,4,5,6,8] H trivial H ⟨_,_,_,_,_,_,_,_,_,_,H,hk26,hsm27,hq28,hin29,Wt.drop_len,.inr ⟨1,(by decide),_,_,hp16,hon30,H,hfull31⟩,H⟩
     refine A.mx [(0,false),(1,false),(2,false),(3,false),(4,false),(5,false),(6,false),(7,false),(8,false),(9,false),(10,true),(11,false),(12,false),(13,false),(14,true),(15,true),(16,false)] [0,7] (by kernel_rfl) H<|Mx.r 3 H<|Mx.q H (Qt.lw 0 A86 H H H) H<|Mx.r 1 H<|Mx.q H (Qt.lkI (V:=.agg #[.int .i64 j.x.id,.int .i64 j.x.level,.int .i64 j.x.from_,.int .i64 j.x.deadline,.int .i64 j.x.budget,.int .i64 j.x.since,.int .i64 j.x.seq,.int .i64 j.ph,j.v]) N86 N3 Y68 H H (Mc.own 1 N.jb H H) (by rw [hg];rfl)) H<|Mx.r 1 H<|Mx.q H (Qt.lv 0 A3 H H H) H<|Mx.r 1 H<|Mx.q H (Qt.lv 0 A3 H H H) H<|Mx.l H (Lo.ca C201 (jb_HE j.x.id j.x.level j.x.from_ j.x.deadline j.x.budget j.x.since j.x.seq j.ph j.v j.needs rid code (of_decide_eq_true h2) (by have h_:=(hin.j.job _ _ hg).2.2.nl;omega) (of_decide_eq_true h4) (of_decide_eq_true h6) (hin.j.job _ _ hg).2.2.up (of_decide_eq_true h8)) [] H H (.of 8 (Nd.nRows_rd hg) H H .nil)) H ?_
     rintro _ _ ⟨_,⟨rfl,rfl⟩,rfl⟩
     refine MxK.al [0,7] H (by kernel_rfl)<|Mx.r 3 H<|Mx.l H (Lo.al Y68 H) H ?_
     rintro _ _ ⟨g34,rfl,rfl⟩
     refine MxK.al [1,8] H (by kernel_rfl)<|Mx.l0 H (Lo.st 0 Z68 H H H H H H H) ?_
     rintro _ _ rfl
     refine MxK.al [1,8] H (by kernel_rfl)<|Mx.r 1 H<|Mx.nil<|J.co 13 H<|O.l (Lo.ca C191 (te_over N now ver many calls k t EV FV evs frs ps jm ws wl j.x 1 hN hin (hin.j.job _ _ hg).1 (by first|omega|(simp only [List.length_append,List.length_cons,List.length_nil];omega)) (by first|omega|(simp only [List.length_append,List.length_cons,List.length_nil];omega))) [2,3,4,7,8,9,10] H H (.ro 0 H (.own 5 H H .nil))) H ?_
     rintro _ _ ⟨_,⟨E35,F36,ps37,ws38,rfl,hp39,hin40,rfl⟩,rfl⟩
     refine O.oo 3 H<|O.l (Lo.ca C86 (te_on N now ver many calls k t E35 F36 (evs++[Nd.endE now N.self (j.x,1)]) q ps37 (delI jm j.x.id) ws38 (Wt.drop wl j.x.id) hN hk hq hin40 (Nd.ids_less hid hp39) (by first|omega|(simp only [List.length_append,List.length_cons,List.length_nil];omega))) [0,1,9,10,3,4,5] H H (.ro 0 H .nil)) H ?_
     rintro _ _ ⟨_,⟨k42,q43,ps44,jm45,E46,es47,S48,rfl,hk49,hsm50,hq51,hin52,hon53,hfull54,rfl⟩,rfl⟩
     refine O.nil ?_
     exact J.dn [] [0,1,7,2,3,4,5,6,8] H trivial H ⟨_,_,_,_,_,_,_,_,_,_,H,hk49,hsm50,hq51,hin52,Wt.drop_len,.inr ⟨1,(by decide),_,_,hp39,hon53,H,hfull54⟩,H⟩
    have p56:=of_decide_eq_false h8
    refine J.drawA Tryz.mixed ?_
    refine A.edge 10 14 H ?_ ?_
    ·
     refine A.mx [(0,false),(1,false),(2,false),(3,false),(4,false),(5,false),(6,false),(7,false),(8,false),(9,false),(14,true),(10,true),(11,false),(12,false),(13,false),(15,true),(16,false)] [0,7] (by kernel_rfl) H<|Mx.r 3 H<|Mx.q H (Qt.lw 0 A86 H H H) H<|Mx.r 1 H<|Mx.q H (Qt.lkI (V:=.agg #[.int .i64 j.x.id,.int .i64 j.x.level,.int .i64 j.x.from_,.int .i64 j.x.deadline,.int .i64 j.x.budget,.int .i64 j.x.since,.int .i64 j.x.seq,.int .i64 j.ph,j.v]) N86 N3 Y68 H H (Mc.own 1 N.jb H H) (by rw [hg];rfl)) H<|Mx.r 1 H<|Mx.q H (Qt.lv 0 A3 H H H) H<|Mx.r 1 H<|Mx.q H (Qt.lv 0 A3 H H H) H<|Mx.l H (Lo.al Y68 H) H ?_
     rintro _ _ ⟨g57,rfl,rfl⟩
     refine MxK.gp [1,8] [0,1] H H<|Mx.l H (Lo.ca C201 (jb_HN j.x.id j.x.level j.x.from_ j.x.deadline j.x.budget j.x.since j.x.seq j.ph j.v j.needs rid code (of_decide_eq_true h2) (by have h_:=(hin.j.job _ _ hg).2.2.nl;omega) (of_decide_eq_true h4) (of_decide_eq_true h6) (hin.j.job _ _ hg).2.2.up (of_decide_eq_false h8)) [] H H (.of 9 (Nd.nRows_rd hg) H H .nil)) H ?_
     rintro _ _ ⟨_,⟨V58,rfl,rfl⟩,rfl⟩
     refine MxK.al [2,9] H (by kernel_rfl)<|Mx.r 3 H ?_
     refine Mx.one H (fun _ h=>by cases h<;>rfl) (Src.row 0 H) (fun hV60=>?_)
     refine Mx.l0 H (Lo.st 1 Z68 H H H H H (by simp only [List.all_cons,List.all_nil,Bool.and_true,hV60]<;>rfl) H) ?_
     rintro _ _ rfl
     refine MxK.al [2,9] H (by kernel_rfl)<|Mx.r 1 H<|Mx.nil<|J.cc 8 H<|J.drawTail 6 Tryz.mixed (by kernel_rfl)<|S.r 3 H<|S.q (Qt.lw 0 A86 H H H) H<|S.r 1 H<|S.q (Qt.lva 1 A68 Z68 H H H) H<|S.endO<|O.l0 (Lo.mapPut (u:=(⟨j.x,2,V58,Jb.without j.needs rid⟩:Nd.Jb)) 9 N86 N3 H H H H) ?_
     rintro _ _ rfl
     refine O.nil ?_
     refine J.one (Src.row 0 H) (fun hVj=>?_)
     refine J.re (Re.trans (Re.sn [0,10,1,2,3,4,5,6,7,8,9,11] H) (Re.hd2 (Nd.nRows_upd hin.j.kd hg (⟨j.x,2,V58,Jb.without j.needs rid⟩:Nd.Jb)))) ?_
     exact J.rn [] [3,4,5,6,7,8,9,0,10] H trivial H ⟨_,_,_,_,_,_,_,_,_,_,H,hk,.refl _,hq,⟨hin.hl,hin.hb,hin.j.upd (j':=(⟨j.x,2,V58,Jb.without j.needs rid⟩:Nd.Jb)) hg H ⟨.inr H,Nat.le_trans Jb.without_len (hin.j.job _ _ hg).2.2.nl,hVj,Jb.without_up (hin.j.job _ _ hg).2.2.up⟩,hin.r,Nd.WOk.put hin.w,hin.wn⟩,Nat.le_refl _,.inl ⟨H,H,H,H,(⟨j.x,2,V58,Jb.without j.needs rid⟩:Nd.Jb),H,H⟩,H⟩
    refine A.mx [(0,false),(1,false),(2,false),(3,false),(4,false),(5,false),(6,false),(7,false),(8,false),(9,false),(10,true),(11,false),(12,false),(13,false),(14,true),(15,true),(16,false)] [0,7] (by kernel_rfl) H<|Mx.r 3 H<|Mx.q H (Qt.lw 0 A86 H H H) H<|Mx.r 1 H<|Mx.q H (Qt.lkI (V:=.agg #[.int .i64 j.x.id,.int .i64 j.x.level,.int .i64 j.x.from_,.int .i64 j.x.deadline,.int .i64 j.x.budget,.int .i64 j.x.since,.int .i64 j.x.seq,.int .i64 j.ph,j.v]) N86 N3 Y68 H H (Mc.own 1 N.jb H H) (by rw [hg];rfl)) H<|Mx.r 1 H<|Mx.q H (Qt.lv 0 A3 H H H) H<|Mx.r 1 H<|Mx.q H (Qt.lv 0 A3 H H H) H<|Mx.l H (Lo.ca C201 (jb_HN j.x.id j.x.level j.x.from_ j.x.deadline j.x.budget j.x.since j.x.seq j.ph j.v j.needs rid code (of_decide_eq_true h2) (by have h_:=(hin.j.job _ _ hg).2.2.nl;omega) (of_decide_eq_true h4) (of_decide_eq_true h6) (hin.j.job _ _ hg).2.2.up (of_decide_eq_false h8)) [] H H (.of 8 (Nd.nRows_rd hg) H H .nil)) H ?_
    rintro _ _ ⟨_,⟨V61,rfl,rfl⟩,rfl⟩
    refine MxK.al [1,8] H (by kernel_rfl)<|Mx.r 3 H<|Mx.l H (Lo.al Y68 H) H ?_
    rintro _ _ ⟨g63,rfl,rfl⟩
    refine MxK.al [2,9] H (by kernel_rfl) ?_
    refine Mx.one H (fun _ h=>by cases h<;>rfl) (Src.row 1 H) (fun hV64=>?_)
    refine Mx.l0 H (Lo.st 0 Z68 H H H H H (by simp only [List.all_cons,List.all_nil,Bool.and_true,hV64]<;>rfl) H) ?_
    rintro _ _ rfl
    refine MxK.al [2,9] H (by kernel_rfl)<|Mx.r 1 H<|Mx.nil<|J.cc 8 H<|J.drawTail 6 Tryz.mixed (by kernel_rfl)<|S.r 3 H<|S.q (Qt.lw 0 A86 H H H) H<|S.r 1 H<|S.q (Qt.lva 0 A68 Z68 H H H) H<|S.endO<|O.l0 (Lo.mapPut (u:=(⟨j.x,2,V61,Jb.without j.needs rid⟩:Nd.Jb)) 9 N86 N3 H H H H) ?_
    rintro _ _ rfl
    refine O.nil ?_
    refine J.one (Src.row 1 H) (fun hVj=>?_)
    refine J.re (Re.trans (Re.sn [1,10,0,2,3,4,5,6,7,8,9,11] H) (Re.hd2 (Nd.nRows_upd hin.j.kd hg (⟨j.x,2,V61,Jb.without j.needs rid⟩:Nd.Jb)))) ?_
    exact J.rn [] [3,4,5,6,7,8,9,0,10] H trivial H ⟨_,_,_,_,_,_,_,_,_,_,H,hk,.refl _,hq,⟨hin.hl,hin.hb,hin.j.upd (j':=(⟨j.x,2,V61,Jb.without j.needs rid⟩:Nd.Jb)) hg H ⟨.inr H,Nat.le_trans Jb.without_len (hin.j.job _ _ hg).2.2.nl,hVj,Jb.without_up (hin.j.job _ _ hg).2.2.up⟩,hin.r,Nd.WOk.put hin.w,hin.wn⟩,Nat.le_refl _,.inl ⟨H,H,H,H,(⟨j.x,2,V61,Jb.without j.needs rid⟩:Nd.Jb),H,H⟩,H⟩
   have p65:=of_decide_eq_false h6
   refine J.drawA Tryz.mixed ?_
   refine A.edge 10 14 H ?_ ?_
   ·
    refine A.mx [(0,false),(1,false),(2,false),(3,false),(4,false),(5,false),(6,false),(7,false),(8,false),(9,false),(14,true),(10,true),(11,false),(12,false),(13,false),(15,true),(16,false)] [0,7] (by kernel_rfl) H<|Mx.r 3 H<|Mx.q H (Qt.lw 0 A86 H H H) H<|Mx.r 1 H<|Mx.q H (Qt.lkI (V:=.agg #[.int .i64 j.x.id,.int .i64 j.x.level,.int .i64 j.x.from_,.int .i64 j.x.deadline,.int .i64 j.x.budget,.int .i64 j.x.since,.int .i64 j.x.seq,.int .i64 j.ph,j.v]) N86 N3 Y68 H H (Mc.own 1 N.jb H H) (by rw [hg];rfl)) H<|Mx.r 1 H<|Mx.q H (Qt.lv 0 A3 H H H) H<|Mx.r 1 H<|Mx.q H (Qt.lv 0 A3 H H H) H<|Mx.l H (Lo.al Y68 H) H ?_
    rintro _ _ ⟨g66,rfl,rfl⟩
    refine MxK.gp [1,8] [0,1] H H<|Mx.l H (Lo.ca C201 (jb_HB j.x.id j.x.level j.x.from_ j.x.deadline j.x.budget j.x.since j.x.seq j.ph j.v j.needs rid code (of_decide_eq_true h2) (by have h_:=(hin.j.job _ _ hg).2.2.nl;omega) (of_decide_eq_true h4) (of_decide_eq_false h6)) [] H H (.of 9 (Nd.nRows_rd hg) H H .nil)) H ?_
    rintro _ _ ⟨_,⟨rfl,rfl⟩,rfl⟩
    refine MxK.al [1,8] H (by kernel_rfl)<|Mx.r 3 H<|Mx.l0 H (Lo.st 0 Z68 H H H H H H H) ?_
    rintro _ _ rfl
    refine MxK.al [1,8] H (by kernel_rfl)<|Mx.r 1 H<|Mx.nil<|J.co 13 H<|O.l (Lo.ca C191 (te_over N now ver many calls k t EV FV evs frs ps jm ws wl j.x 7 hN hin (hin.j.job _ _ hg).1 (by first|omega|(simp only [List.length_append,List.length_cons,List.length_nil];omega)) (by first|omega|(simp only [List.length_append,List.length_cons,List.length_nil];omega))) [2,3,4,7,8,9,10] H H (.ro 0 H (.own 5 H H .nil))) H ?_
    rintro _ _ ⟨_,⟨E68,F69,ps70,ws71,rfl,hp72,hin73,rfl⟩,rfl⟩
    refine O.oo 3 H<|O.l (Lo.ca C86 (te_on N now ver many calls k t E68 F69 (evs++[Nd.endE now N.self (j.x,7)]) q ps70 (delI jm j.x.id) ws71 (Wt.drop wl j.x.id) hN hk hq hin73 (Nd.ids_less hid hp72) (by first|omega|(simp only [List.length_append,List.length_cons,List.length_nil];omega))) [0,1,9,10,3,4,5] H H (.ro 0 H .nil)) H ?_
    rintro _ _ ⟨_,⟨k75,q76,ps77,jm78,E79,es80,S81,rfl,hk82,hsm83,hq84,hin85,hon86,hfull87,rfl⟩,rfl⟩
    refine O.nil ?_
    exact J.dn [] [0,1,7,2,3,4,5,6,8] H trivial H ⟨_,_,_,_,_,_,_,_,_,_,H,hk82,hsm83,hq84,hin85,Wt.drop_len,.inr ⟨7,(by decide),_,_,hp72,hon86,H,hfull87⟩,H⟩
   refine A.mx [(0,false),(1,false),(2,false),(3,false),(4,false),(5,false),(6,false),(7,false),(8,false),(9,false),(10,true),(11,false),(12,false),(13,false),(14,true),(15,true),(16,false)] [0,7] (by kernel_rfl) H<|Mx.r 3 H<|Mx.q H (Qt.lw 0 A86 H H H) H<|Mx.r 1 H<|Mx.q H (Qt.lkI (V:=.agg #[.int .i64 j.x.id,.int .i64 j.x.level,.int .i64 j.x.from_,.int .i64 j.x.deadline,.int .i64 j.x.budget,.int .i64 j.x.since,.int .i64 j.x.seq,.int .i64 j.ph,j.v]) N86 N3 Y68 H H (Mc.own 1 N.jb H H) (by rw [hg];rfl)) H<|Mx.r 1 H<|Mx.q H (Qt.lv 0 A3 H H H) H<|Mx.r 1 H<|Mx.q H (Qt.lv 0 A3 H H H) H<|Mx.l H (Lo.ca C201 (jb_HB j.x.id j.x.level j.x.from_ j.x.deadline j.x.budget j.x.since j.x.seq j.ph j.v j.needs rid code (of_decide_eq_true h2) (by have h_:=(hin.j.job _ _ hg).2.2.nl;omega) (of_decide_eq_true h4) (of_decide_eq_false h6)) [] H H (.of 8 (Nd.nRows_rd hg) H H .nil)) H ?_
   rintro _ _ ⟨_,⟨rfl,rfl⟩,rfl⟩
   refine MxK.al [0,7] H (by kernel_rfl)<|Mx.r 3 H<|Mx.l H (Lo.al Y68 H) H ?_
   rintro _ _ ⟨g90,rfl,rfl⟩
   refine MxK.al [1,8] H (by kernel_rfl)<|Mx.l0 H (Lo.st 0 Z68 H H H H H H H) ?_
   rintro _ _ rfl
   refine MxK.al [1,8] H (by kernel_rfl)<|Mx.r 1 H<|Mx.nil<|J.co 13 H<|O.l (Lo.ca C191 (te_over N now ver many calls k t EV FV evs frs ps jm ws wl j.x 7 hN hin (hin.j.job _ _ hg).1 (by first|omega|(simp only [List.length_append,List.length_cons,List.length_nil];omega)) (by first|omega|(simp only [List.length_append,List.length_cons,List.length_nil];omega))) [2,3,4,7,8,9,10] H H (.ro 0 H (.own 5 H H .nil))) H ?_
   rintro _ _ ⟨_,⟨E91,F92,ps93,ws94,rfl,hp95,hin96,rfl⟩,rfl⟩
   refine O.oo 3 H<|O.l (Lo.ca C86 (te_on N now ver many calls k t E91 F92 (evs++[Nd.endE now N.self (j.x,7)]) q ps93 (delI jm j.x.id) ws94 (Wt.drop wl j.x.id) hN hk hq hin96 (Nd.ids_less hid hp95) (by first|omega|(simp only [List.length_append,List.length_cons,List.length_nil];omega))) [0,1,9,10,3,4,5] H H (.ro 0 H .nil)) H ?_
   rintro _ _ ⟨_,⟨k98,q99,ps100,jm101,E102,es103,S104,rfl,hk105,hsm106,hq107,hin108,hon109,hfull110,rfl⟩,rfl⟩
   refine O.nil ?_
   exact J.dn [] [0,1,7,2,3,4,5,6,8] H trivial H ⟨_,_,_,_,_,_,_,_,_,_,H,hk105,hsm106,hq107,hin108,Wt.drop_len,.inr ⟨7,(by decide),_,_,hp95,hon109,H,hfull110⟩,H⟩
  have p112:=of_decide_eq_false h4
  refine J.drawA Tryz.mixed ?_
  refine A.edge 10 14 H ?_ ?_
  ·
   refine A.mx [(0,false),(1,false),(2,false),(3,false),(4,false),(5,false),(6,false),(7,false),(8,false),(9,false),(14,true),(10,true),(11,false),(12,false),(13,false),(15,true),(16,false)] [0,7] (by kernel_rfl) H<|Mx.r 3 H<|Mx.q H (Qt.lw 0 A86 H H H) H<|Mx.r 1 H<|Mx.q H (Qt.lkI (V:=.agg #[.int .i64 j.x.id,.int .i64 j.x.level,.int .i64 j.x.from_,.int .i64 j.x.deadline,.int .i64 j.x.budget,.int .i64 j.x.since,.int .i64 j.x.seq,.int .i64 j.ph,j.v]) N86 N3 Y68 H H (Mc.own 1 N.jb H H) (by rw [hg];rfl)) H<|Mx.r 1 H<|Mx.q H (Qt.lv 0 A3 H H H) H<|Mx.r 1 H<|Mx.q H (Qt.lv 0 A3 H H H) H<|Mx.l H (Lo.al Y68 H) H ?_
   rintro _ _ ⟨g113,rfl,rfl⟩
   refine MxK.gp [1,8] [0,1] H H<|Mx.l H (Lo.ca C201 (jb_HeardNo j.x.id j.x.level j.x.from_ j.x.deadline j.x.budget j.x.since j.x.seq j.ph j.v j.needs rid code (by have h_:=(hin.j.job _ _ hg).2.2.nl;omega) (.inr (of_decide_eq_false h4))) [] H H (.of 9 (Nd.nRows_rd hg) H H .nil)) H ?_
   rintro _ _ ⟨_,⟨V114,rfl,rfl⟩,rfl⟩
   refine MxK.al [2,9] H (by kernel_rfl)<|Mx.r 3 H ?_
   refine Mx.one H (fun _ h=>by cases h<;>rfl) (Src.row 0 H) (fun hV116=>?_)
   refine Mx.l0 H (Lo.st 1 Z68 H H H H H (by simp only [List.all_cons,List.all_nil,Bool.and_true,hV116]<;>rfl) H) ?_
   rintro _ _ rfl
   refine MxK.al [2,9] H (by kernel_rfl)<|Mx.r 1 H<|Mx.nil<|J.cc 8 H<|J.drawTail 6 Tryz.mixed (by kernel_rfl)<|S.r 3 H<|S.q (Qt.lw 0 A86 H H H) H<|S.r 1 H<|S.q (Qt.lva 1 A68 Z68 H H H) H<|S.endO<|O.l0 (Lo.mapPut (u:=(⟨j.x,j.ph,V114,j.needs⟩:Nd.Jb)) 9 N86 N3 H H H H) ?_
   rintro _ _ rfl
   refine O.nil ?_
   refine J.one (Src.row 0 H) (fun hVj=>?_)
   refine J.re (Re.trans (Re.sn [0,10,1,2,3,4,5,6,7,8,9,11] H) (Re.hd2 (Nd.nRows_upd hin.j.kd hg (⟨j.x,j.ph,V114,j.needs⟩:Nd.Jb)))) ?_
   exact J.rn [] [3,4,5,6,7,8,9,0,10] H trivial H ⟨_,_,_,_,_,_,_,_,_,_,H,hk,.refl _,hq,⟨hin.hl,hin.hb,hin.j.upd (j':=(⟨j.x,j.ph,V114,j.needs⟩:Nd.Jb)) hg H ⟨(hin.j.job _ _ hg).2.2.ph,(hin.j.job _ _ hg).2.2.nl,hVj,(hin.j.job _ _ hg).2.2.up⟩,hin.r,Nd.WOk.put hin.w,hin.wn⟩,Nat.le_refl _,.inl ⟨H,H,H,H,(⟨j.x,j.ph,V114,j.needs⟩:Nd.Jb),H,H⟩,H⟩
  refine A.mx [(0,false),(1,false),(2,false),(3,false),(4,false),(5,false),(6,false),(7,false),(8,false),(9,false),(10,true),(11,false),(12,false),(13,false),(14,true),(15,true),(16,false)] [0,7] (by kernel_rfl) H<|Mx.r 3 H<|Mx.q H (Qt.lw 0 A86 H H H) H<|Mx.r 1 H<|Mx.q H (Qt.lkI (V:=.agg #[.int .i64 j.x.id,.int .i64 j.x.level,.int .i64 j.x.from_,.int .i64 j.x.deadline,.int .i64 j.x.budget,.int .i64 j.x.since,.int .i64 j.x.seq,.int .i64 j.ph,j.v]) N86 N3 Y68 H H (Mc.own 1 N.jb H H) (by rw [hg];rfl)) H<|Mx.r 1 H<|Mx.q H (Qt.lv 0 A3 H H H) H<|Mx.r 1 H<|Mx.q H (Qt.lv 0 A3 H H H) H<|Mx.l H (Lo.ca C201 (jb_HeardNo j.x.id j.x.level j.x.from_ j.x.deadline j.x.budget j.x.since j.x.seq j.ph j.v j.needs rid code (by have h_:=(hin.j.job _ _ hg).2.2.nl;omega) (.inr (of_decide_eq_false h4))) [] H H (.of 8 (Nd.nRows_rd hg) H H .nil)) H ?_
  rintro _ _ ⟨_,⟨V117,rfl,rfl⟩,rfl⟩
  refine MxK.al [1,8] H (by kernel_rfl)<|Mx.r 3 H<|Mx.l H (Lo.al Y68 H) H ?_
  rintro _ _ ⟨g119,rfl,rfl⟩
  refine MxK.al [2,9] H (by kernel_rfl) ?_
  refine Mx.one H (fun _ h=>by cases h<;>rfl) (Src.row 1 H) (fun hV120=>?_)
  refine Mx.l0 H (Lo.st 0 Z68 H H H H H (by simp only [List.all_cons,List.all_nil,Bool.and_true,hV120]<;>rfl) H) ?_
  rintro _ _ rfl
  refine MxK.al [2,9] H (by kernel_rfl)<|Mx.r 1 H<|Mx.nil<|J.cc 8 H<|J.drawTail 6 Tryz.mixed (by kernel_rfl)<|S.r 3 H<|S.q (Qt.lw 0 A86 H H H) H<|S.r 1 H<|S.q (Qt.lva 0 A68 Z68 H H H) H<|S.endO<|O.l0 (Lo.mapPut (u:=(⟨j.x,j.ph,V117,j.needs⟩:Nd.Jb)) 9 N86 N3 H H H H) ?_
  rintro _ _ rfl
  refine O.nil ?_
  refine J.one (Src.row 1 H) (fun hVj=>?_)
  refine J.re (Re.trans (Re.sn [1,10,0,2,3,4,5,6,7,8,9,11] H) (Re.hd2 (Nd.nRows_upd hin.j.kd hg (⟨j.x,j.ph,V117,j.needs⟩:Nd.Jb)))) ?_
  exact J.rn [] [3,4,5,6,7,8,9,0,10] H trivial H ⟨_,_,_,_,_,_,_,_,_,_,H,hk,.refl _,hq,⟨hin.hl,hin.hb,hin.j.upd (j':=(⟨j.x,j.ph,V117,j.needs⟩:Nd.Jb)) hg H ⟨(hin.j.job _ _ hg).2.2.ph,(hin.j.job _ _ hg).2.2.nl,hVj,(hin.j.job _ _ hg).2.2.up⟩,hin.r,Nd.WOk.put hin.w,hin.wn⟩,Nat.le_refl _,.inl ⟨H,H,H,H,(⟨j.x,j.ph,V117,j.needs⟩:Nd.Jb),H,H⟩,H⟩
 have p121:=of_decide_eq_false h2
 refine J.drawA Tryz.mixed ?_
 refine A.edge 10 14 H ?_ ?_
 ·
  refine A.mx [(0,false),(1,false),(2,false),(3,false),(4,false),(5,false),(6,false),(7,false),(8,false),(9,false),(14,true),(10,true),(11,false),(12,false),(13,false),(15,true),(16,false)] [0,7] (by kernel_rfl) H<|Mx.r 3 H<|Mx.q H (Qt.lw 0 A86 H H H) H<|Mx.r 1 H<|Mx.q H (Qt.lkI (V:=.agg #[.int .i64 j.x.id,.int .i64 j.x.level,.int .i64 j.x.from_,.int .i64 j.x.deadline,.int .i64 j.x.budget,.int .i64 j.x.since,.int .i64 j.x.seq,.int .i64 j.ph,j.v]) N86 N3 Y68 H H (Mc.own 1 N.jb H H) (by rw [hg];rfl)) H<|Mx.r 1 H<|Mx.q H (Qt.lv 0 A3 H H H) H<|Mx.r 1 H<|Mx.q H (Qt.lv 0 A3 H H H) H<|Mx.l H (Lo.al Y68 H) H ?_
  rintro _ _ ⟨g122,rfl,rfl⟩
  refine MxK.gp [1,8] [0,1] H H<|Mx.l H (Lo.ca C201 (jb_HeardNo j.x.id j.x.level j.x.from_ j.x.deadline j.x.budget j.x.since j.x.seq j.ph j.v j.needs rid code (by have h_:=(hin.j.job _ _ hg).2.2.nl;omega) (.inl (of_decide_eq_false h2))) [] H H (.of 9 (Nd.nRows_rd hg) H H .nil)) H ?_
  rintro _ _ ⟨_,⟨V123,rfl,rfl⟩,rfl⟩
  refine MxK.al [2,9] H (by kernel_rfl)<|Mx.r 3 H ?_
  refine Mx.one H (fun _ h=>by cases h<;>rfl) (Src.row 0 H) (fun hV125=>?_)
  refine Mx.l0 H (Lo.st 1 Z68 H H H H H (by simp only [List.all_cons,List.all_nil,Bool.and_true,hV125]<;>rfl) H) ?_
  rintro _ _ rfl
  refine MxK.al [2,9] H (by kernel_rfl)<|Mx.r 1 H<|Mx.nil<|J.cc 8 H<|J.drawTail 6 Tryz.mixed (by kernel_rfl)<|S.r 3 H<|S.q (Qt.lw 0 A86 H H H) H<|S.r 1 H<|S.q (Qt.lva 1 A68 Z68 H H H) H<|S.endO<|O.l0 (Lo.mapPut (u:=(⟨j.x,j.ph,V123,j.needs⟩:Nd.Jb)) 9 N86 N3 H H H H) ?_
  rintro _ _ rfl
  refine O.nil ?_
  refine J.one (Src.row 0 H) (fun hVj=>?_)
  refine J.re (Re.trans (Re.sn [0,10,1,2,3,4,5,6,7,8,9,11] H) (Re.hd2 (Nd.nRows_upd hin.j.kd hg (⟨j.x,j.ph,V123,j.needs⟩:Nd.Jb)))) ?_
  exact J.rn [] [3,4,5,6,7,8,9,0,10] H trivial H ⟨_,_,_,_,_,_,_,_,_,_,H,hk,.refl _,hq,⟨hin.hl,hin.hb,hin.j.upd (j':=(⟨j.x,j.ph,V123,j.needs⟩:Nd.Jb)) hg H ⟨(hin.j.job _ _ hg).2.2.ph,(hin.j.job _ _ hg).2.2.nl,hVj,(hin.j.job _ _ hg).2.2.up⟩,hin.r,Nd.WOk.put hin.w,hin.wn⟩,Nat.le_refl _,.inl ⟨H,H,H,H,(⟨j.x,j.ph,V123,j.needs⟩:Nd.Jb),H,H⟩,H⟩
 refine A.mx [(0,false),(1,false),(2,false),(3,false),(4,false),(5,false),(6,false),(7,false),(8,false),(9,false),(10,true),(11,false),(12,false),(13,false),(14,true),(15,true),(16,false)] [0,7] (by kernel_rfl) H<|Mx.r 3 H<|Mx.q H (Qt.lw 0 A86 H H H) H<|Mx.r 1 H<|Mx.q H (Qt.lkI (V:=.agg #[.int .i64 j.x.id,.int .i64 j.x.level,.int .i64 j.x.from_,.int .i64 j.x.deadline,.int .i64 j.x.budget,.int .i64 j.x.since,.int .i64 j.x.seq,.int .i64 j.ph,j.v]) N86 N3 Y68 H H (Mc.own 1 N.jb H H) (by rw [hg];rfl)) H<|Mx.r 1 H<|Mx.q H (Qt.lv 0 A3 H H H) H<|Mx.r 1 H<|Mx.q H (Qt.lv 0 A3 H H H) H<|Mx.l H (Lo.ca C201 (jb_HeardNo j.x.id j.x.level j.x.from_ j.x.deadline j.x.budget j.x.since j.x.seq j.ph j.v j.needs rid code (by have h_:=(hin.j.job _ _ hg).2.2.nl;omega) (.inl (of_decide_eq_false h2))) [] H H (.of 8 (Nd.nRows_rd hg) H H .nil)) H ?_
 rintro _ _ ⟨_,⟨V126,rfl,rfl⟩,rfl⟩
 refine MxK.al [1,8] H (by kernel_rfl)<|Mx.r 3 H<|Mx.l H (Lo.al Y68 H) H ?_
 rintro _ _ ⟨g128,rfl,rfl⟩
 refine MxK.al [2,9] H (by kernel_rfl) ?_
 refine Mx.one H (fun _ h=>by cases h<;>rfl) (Src.row 1 H) (fun hV129=>?_)
 refine Mx.l0 H (Lo.st 0 Z68 H H H H H (by simp only [List.all_cons,List.all_nil,Bool.and_true,hV129]<;>rfl) H) ?_
 rintro _ _ rfl
 refine MxK.al [2,9] H (by kernel_rfl)<|Mx.r 1 H<|Mx.nil<|J.cc 8 H<|J.drawTail 6 Tryz.mixed (by kernel_rfl)<|S.r 3 H<|S.q (Qt.lw 0 A86 H H H) H<|S.r 1 H<|S.q (Qt.lva 0 A68 Z68 H H H) H<|S.endO<|O.l0 (Lo.mapPut (u:=(⟨j.x,j.ph,V126,j.needs⟩:Nd.Jb)) 9 N86 N3 H H H H) ?_
 rintro _ _ rfl
 refine O.nil ?_
 refine J.one (Src.row 1 H) (fun hVj=>?_)
 refine J.re (Re.trans (Re.sn [1,10,0,2,3,4,5,6,7,8,9,11] H) (Re.hd2 (Nd.nRows_upd hin.j.kd hg (⟨j.x,j.ph,V126,j.needs⟩:Nd.Jb)))) ?_
 exact J.rn [] [3,4,5,6,7,8,9,0,10] H trivial H ⟨_,_,_,_,_,_,_,_,_,_,H,hk,.refl _,hq,⟨hin.hl,hin.hb,hin.j.upd (j':=(⟨j.x,j.ph,V126,j.needs⟩:Nd.Jb)) hg H ⟨(hin.j.job _ _ hg).2.2.ph,(hin.j.job _ _ hg).2.2.nl,hVj,(hin.j.job _ _ hg).2.2.up⟩,hin.r,Nd.WOk.put hin.w,hin.wn⟩,Nat.le_refl _,.inl ⟨H,H,H,H,(⟨j.x,j.ph,V126,j.needs⟩:Nd.Jb),H,H⟩,H⟩
theorem jb_DoneE2 (x0 x1 x2 x3 x4 x5 x6:Int) (qv lv:Value) (hq:Value.oneCell' qv=true) (l:List Int) (he:l=[]):Tri prog 193 #[.agg #[.int .i64 x0,.int .i64 x1,.int .i64 x2,.int .i64 x3,.int .i64 x4,.int .i64 x5,.int .i64 x6,.int .i64 1,qv],lv] [rd lv 1 (l.map encZ)] [] (fun v L'=>v=.tuple #[.agg #[.int .i64 0,.int .i64 0,.int .i64 0,.int .i64 0,.int .i64 0,.int .i64 0,.int .i64 0,.int .i64 0,.slice none 0 0],.int .i64 1,.int .i64 0]∧L'=[]):=by
 subst he;exact jb_DoneE x0 x1 x2 x3 x4 x5 x6 qv lv hq
theorem nw_calling (N:Nd.Nc) (now ver many calls:Int) (k:Nd.Kt) (t:Nat) (EV FV:Value) (evs:List Ev) (frs:List Fr) (ps:Nd.Pl) (jm:List (Int×Nd.Jb)) (ws:Ws) (wl:List Pr) (d:Sh.Ts) (x:Im) (nv:Value) (j:Nd.Jb) (hnv:Value.oneCell' nv=true) (hN:N.Ok) (hin:Nd.In N ps jm wl ws) (hx:x∈Nd.its ps) (hg:getI jm x.id=some j) (hjx:j.x=x) (hc0:0≤calls) (hc1:calls≤90000) (hwl:wl.length≤90000) (he:evs.length≤90000) (hf:frs.length≤90000):Tri prog 88 #[.pointer (some ⟨N.n,0,none⟩),.pointer (some ⟨t,0,none⟩),.agg #[.int .i64 x.id,.int .i64 x.level,.int .i64 x.from_,.int .i64 x.deadline,.int .i64 x.budget,.int .i64 x.since,.int .i64 x.seq,.int .i64 1,nv]] [ct N k,var N.tb (Sh.tbC N.ttl d) 215,rd N.cv 4 (N.calls.map Cl.cells)] [var t [.pointer (some ⟨N.n,0,none⟩),EV,FV] 261,row EV 51 7 (evs.map Ev.cells),row FV 62 23 (frs.map Fr.cells),var N.n (Nd.nC N now ver many calls) 90,sl N ps,mi N.jb Nd.jobV jm,bun (Nd.nRows 3 jm),wt 195 N.w ws] (fun v L'=>∃ EV' FV' ps' jm' ws' wl' evs' frs' c',v=.tuple #[]∧Nd.In N ps' jm' wl' ws'∧Nd.CaR N now k x (Nd.its ps) (Nd.its ps') jm jm' evs evs' frs frs'∧(calls≤c'∧c'≤calls+6)∧wl'.length≤wl.length+6∧L'=[var t [.pointer (some ⟨N.n,0,none⟩),EV',FV'] 261,row EV' 51 7 (evs'.map Ev.cells),row FV' 62 23 (frs'.map Fr.cells),var N.n (Nd.nC N now ver many c') 90,sl N ps',mi N.jb Nd.jobV jm',bun (Nd.nRows 3 jm'),wt 195 N.w ws']):=by
 refine Tri.en func88 H ntmps88 H fun w0=>J.co 2 H<|O.l (Lo.bx H H) H ?_
 rintro _ _ ⟨g1,rfl,rfl⟩
 refine O.oo 4 H<|O.q (Qt.lva 0 A66 Z66 H H H) H<|O.l (Lo.al Y66 H) H ?_
 rintro _ _ ⟨g2,rfl,rfl⟩
 refine O.l0 (Lo.st 0 Z66 H H H H H H H) ?_
 rintro _ _ rfl
 refine O.oc 2 H<|J.drawA Tryz.mixed ?_
 refine A.edge 19 20 H ?_ ?_
 ·
  refine A.mx [(0,false),(1,false),(2,false),(3,false),(4,false),(5,false),(6,false),(7,false),(8,false),(9,false),(10,false),(11,false),(12,false),(13,false),(14,false),(15,false),(16,false),(17,false),(18,false),(20,true),(19,true),(21,true)] [0,5] (by kernel_rfl) H<|Mx.r 3 H<|Mx.q H (Qt.lva 1 A56 Z56 H H H) H<|Mx.r 1 H<|Mx.call (vs:=[.pointer (some ⟨N.n,0,none⟩)]) (caps:=[]) H (by exact call19) H H (nw_Tier N now ver many calls k) (fun _ _ h=>h) (RoOk.of 1 H same_rd [] (by decide) H (RoOk.ro 0 H [] H RoOk.nil)) H<|Mx.r 1 H<|Mx.q H (Qt.lv 0 A3 H H H) H<|Mx.r 3 H<|Mx.q H (Qt.lv 1 A3 H H H) H<|Mx.r 1 H<|Mx.q H (Qt.lv 0 A3 H H H) H<|Mx.p H (Pu.build [(0,.int .i64 k.tier),(1,.int .i64 x.level),(2,.int .i64 now),(3,.int .i64 x.deadline)] [.int .i64 k.tier,.int .i64 x.level,.int .i64 now,.int .i64 x.deadline] #[(0,1),(1,1),(2,1),(3,1)] runUnderlying273 zeroValue273 (places273 underlying273) H (by kernel_rfl)) H<|Mx.r 3 H<|Mx.q H (Qt.lv 1 isAgg88 H H H) H<|Mx.l H (Lo.al Y236 H) H ?_
  rintro _ _ ⟨g3,rfl,rfl⟩
  refine MxK.gp [1,6] [0,1] H H<|Mx.l H (Lo.ca call190 (fa_Plan N.tb N.ttl d k.tier x.level now x.deadline N.wk N.qn N.win N.tiers N.se N.ttl N.f0 N.f1 N.f2 N.f3 N.f4 N.f5 N.f6 N.cv N.calls hN.hcv (by have h_:=hN.hc;omega)) [] H H (.ro 2 H (.ro 1 H .nil))) H ?_
  rintro _ _ ⟨_,⟨V4,rfl,rfl⟩,rfl⟩
  refine MxK.al [2,7] H (by kernel_rfl) ?_
  refine Mx.one H (fun _ h=>by cases h<;>rfl) (Src.row 0 H) (fun hV6=>?_)
  refine Mx.l0 H (Lo.st 1 Z236 H H H H H (by simp only [List.all_cons,List.all_nil,Bool.and_true,hV6]<;>rfl) H) ?_
  rintro _ _ rfl
  refine MxK.al [2,7] H (by kernel_rfl)<|Mx.nil<|J.co 4 H<|O.q (Qt.lv 1 A3 H H H) H<|O.oc 2 H ?_
  refine J.cd H (fun p7=>?_) (fun p7=>?_)
  ·
   refine J.co 4 H<|O.q (Qt.lv 2 A3 H H H) H<|O.oo 1 H<|O.q (Qt.lv 1 A3 H H H) H<|O.l (Lo.ca C191 (te_over N now ver many calls k t EV FV evs frs ps jm ws wl x ((Nd.planS (fun c=>Nd.stepF c k.tier x.level now x.deadline (Nd.cutT d N.ttl c.to x.level now)) N.calls).1) hN hin hx (by first|omega|(have h7_:=hcal.len;have h8_:=Nd.planS_len (fun c=>Nd.stepF c k.tier x.level now x.deadline (Nd.cutT d N.ttl c.to x.level now)) N.calls;have h9_:=hN.hc;omega)) (by first|omega|(have h7_:=hcal.len;have h8_:=Nd.planS_len (fun c=>Nd.stepF c k.tier x.level now x.deadline (Nd.cutT d N.ttl c.to x.level now)) N.calls;have h9_:=hN.hc;omega))) [4,5,6,8,9,10,11] H H (.own 7 H H (.ro 0 H .nil))) H ?_
   rintro _ _ ⟨_,⟨E8,F9,ps10,ws11,rfl,hp12,hin13,rfl⟩,rfl⟩
   refine O.nil ?_
   exact J.rn [] [0,1,2,11,3,4,5,6] H trivial H ⟨_,_,_,_,_,_,_,_,_,H,hin13,⟨[],[],(by simp),(by simp),(fun _=>⟨H,H⟩),(by simp),(by simp),.inl ⟨(Nd.planS (fun c=>Nd.stepF c k.tier x.level now x.deadline (Nd.cutT d N.ttl c.to x.level now)) N.calls).1,(by have h_:=Nd.planS_code (f:=(fun c=>Nd.stepF c k.tier x.level now x.deadline (Nd.cutT d N.ttl c.to x.level now))) (fun c=>Nd.stepF_code ..) N.calls;omega),(fun h_=>absurd (by rw [Nd.planS_nil h_]) (by assumption:(Nd.planS (fun c=>Nd.stepF c k.tier x.level now x.deadline (Nd.cutT d N.ttl c.to x.level now)) N.calls).1≠0)),hp12,H,(by simp),(by simp)⟩⟩,⟨Int.le_refl _,by omega⟩,Nat.le_trans Wt.drop_len (by omega),H⟩
  refine J.cc 7 H<|J.nr 3 1 (([]:List Int).map encZ) H<|J.co 2 H<|O.q (Qt.lv 2 isAgg234 H H H) H<|O.q (Qt.lenM U234 H (Src.row 1 H)) H<|O.oc 3 H ?_
  refine J.lo (X:=Nat×Value×List Int×Value×Value×List Ev×List Fr×List Ev×List Fr×Int) (fun (n1,NV,nl,EV1,FV1,evs1,frs1,CC,GG,c1)=>n1≤(Nd.planS (fun c=>Nd.stepF c k.tier x.level now x.deadline (Nd.cutT d N.ttl c.to x.level now)) N.calls).2.length∧Nd.CalR x n1 evs evs1 frs frs1 calls c1 nl CC GG) (fun (n1,NV,nl,EV1,FV1,evs1,frs1,CC,GG,c1)=>[(8,NV),(51,.int .i64 (n1:Int))]) (fun (n1,NV,nl,EV1,FV1,evs1,frs1,CC,GG,c1)=>[var t [.pointer (some ⟨N.n,0,none⟩),EV1,FV1] 261,row EV1 51 7 (evs1.map Ev.cells),row FV1 62 23 (frs1.map Fr.cells),var N.n (Nd.nC N now ver many c1) 90,row NV 3 1 (nl.map encZ)]) (fun (n1,NV,nl,EV1,FV1,evs1,frs1,CC,GG,c1)=>(Nd.planS (fun c=>Nd.stepF c k.tier x.level now x.deadline (Nd.cutT d N.ttl c.to x.level now)) N.calls).2.length-n1) ⟨0,Value.slice none 0 0,[],EV,FV,evs,frs,[],[],calls⟩ [0,1,5,6,49,50] [5,6,7,8,0] [3,4,1,9,10,11,12] ⟨by omega,Nd.CalR.zero⟩ ⟨H,(eqi (by omega)),trivial⟩ H H ?_
  rintro ⟨n1,NV,nl,EV1,FV1,evs1,frs1,CC,GG,c1⟩ ⟨hk,hcal⟩
  refine J.cc 5 H ?_
  refine J.cd H (fun p15=>?_) (fun p15=>?_)
  ·
   refine J.co 5 H ?_
   obtain ⟨e16,he16⟩:=ex_at (l:=((Nd.planS (fun c=>Nd.stepF c k.tier x.level now x.deadline (Nd.cutT d N.ttl c.to x.level now)) N.calls).2)) (i:=n1) (by omega)
   refine O.q (Qt.ix U234 Z241 H (Src.row 7 H) he16 H (by rfl)) H<|O.q (Qt.lea A241 Z241 (Src.row 7 H) he16 0 H (by omega) H) H<|O.l (Lo.al Y241 H) H ?_
   rintro _ _ ⟨g17,rfl,rfl⟩
   refine O.l0 (Lo.st 0 Z241 H H H H H H H) ?_
   rintro _ _ rfl
   refine O.oo 5 H<|O.q (Qt.lv 0 A3 H H H) H<|O.oc 2 H ?_
   refine J.cd H (fun p18=>?_) (fun p18=>?_)
   ·
    refine J.co 4 H<|O.q (Qt.lv 6 A3 H H H) H<|O.oo 1 H<|O.q (Qt.lv 0 A3 H H H) H<|O.oo 1 H<|O.q (Qt.lv 0 A3 H H H) H<|O.l (Lo.ca C80 (te_event N now ver many c1 t EV1 FV1 evs1 6 x.id e16.code e16.to 0 (by first|omega|(have h7_:=hcal.len;have h8_:=Nd.planS_len (fun c=>Nd.stepF c k.tier x.level now x.deadline (Nd.cutT d N.ttl c.to x.level now)) N.calls;have h9_:=hN.hc;omega))) [1,2] H H (.own 4 H H .nil)) H ?_
    rintro _ _ ⟨_,⟨E19,rfl,rfl⟩,rfl⟩
    refine O.oo 3 H<|O.p (Pu.add' H H (by first|omega|(have h_:=hcal.nn;have h8_:=Nd.planS_len (fun c=>Nd.stepF c k.tier x.level now x.deadline (Nd.cutT d N.ttl c.to x.level now)) N.calls;have h9_:=hN.hc;omega))) H<|O.oc 2 H ?_
    exact J.lq ⟨n1+1,NV,nl,E19,FV1,evs1++[(⟨6,now,N.self,x.id,e16.code,e16.to,0⟩:Ev)],frs1,CC++[(⟨6,now,N.self,x.id,e16.code,e16.to,0⟩:Ev)],GG,c1⟩ [0,1,5,6,49,50] [0,1,3,4,5] [6,7,8,9,10,11,12] ⟨by omega,hcal.skip rfl rfl⟩ (by dsimp only;omega) ⟨H,(eqi (by omega)),trivial⟩ H H
   refine J.co 4 H<|O.q (Qt.lva 6 A66 Z66 H H H) H<|O.q (Qt.lva 0 A241 Z241 H H H) H<|O.l (Lo.ca call192 (te_call N now ver many c1 t EV1 FV1 evs1 frs1 x e16.to e16.code e16.dl e16.bu e16.rq hN (by have h_:=hcal.c0;omega) (by have h_:=hcal.c1;have h8_:=Nd.planS_len (fun c=>Nd.stepF c k.tier x.level now x.deadline (Nd.cutT d N.ttl c.to x.level now)) N.calls;have h9_:=hN.hc;omega) (by first|omega|(have h7_:=hcal.len;have h8_:=Nd.planS_len (fun c=>Nd.stepF c k.tier x.level now x.deadline (Nd.cutT d N.ttl c.to x.level now)) N.calls;have h9_:=hN.hc;omega)) (by first|omega|(have h7_:=hcal.len;have h8_:=Nd.planS_len (fun c=>Nd.stepF c k.tier x.level now x.deadline (Nd.cutT d N.ttl c.to x.level now)) N.calls;have h9_:=hN.hc;omega))) [1,2,3,4] H H .nil) H ?_
   rintro _ _ ⟨_,⟨E21,F22,rfl,rfl⟩,rfl⟩
   refine O.oo 5 H<|O.q (Qt.lv 4 A4 H H H) H<|O.nil ?_
   refine J.cond H (fun h24=>?_) (fun h24=>?_)
   ·
    refine J.co 3 H<|O.l (Lo.bm encZ [Nd.callNo N c1] U60 Z3 Y3 H H H (by kernel_rfl) H H) H ?_
    rintro V25 _ rfl
    refine O.l (Lo.am 6 N60 info3 H H H H H (Src.row 0 H) encZ.one (by first|omega|(have h_:=hcal.nn;have h8_:=Nd.planS_len (fun c=>Nd.stepF c k.tier x.level now x.deadline (Nd.cutT d N.ttl c.to x.level now)) N.calls;have h9_:=hN.hc;first|omega|(simp only [List.length_append,List.length_cons,List.length_nil];omega))) (by first|omega|(have h_:=hcal.nn;have h8_:=Nd.planS_len (fun c=>Nd.stepF c k.tier x.level now x.deadline (Nd.cutT d N.ttl c.to x.level now)) N.calls;have h9_:=hN.hc;first|omega|(simp only [List.length_append,List.length_cons,List.length_nil];omega)))) H ?_
    rintro V26 _ rfl
    refine O.oo 4 H<|O.p (Pu.add' H H (by first|omega|(have h_:=hcal.nn;have h8_:=Nd.planS_len (fun c=>Nd.stepF c k.tier x.level now x.deadline (Nd.cutT d N.ttl c.to x.level now)) N.calls;have h9_:=hN.hc;omega))) H<|O.oc 2 H ?_
    exact J.lq ⟨n1+1,V26,nl++([Nd.callNo N c1]),E21,F22,evs1++[(⟨5,now,N.self,x.id,0,e16.to,Nd.callNo N c1⟩:Ev)],frs1++[(⟨1,Nd.callNo N c1,N.self,e16.to,x.level,e16.dl,e16.bu,0,0,0,0,0,0,0,0,0,0,0,0,0,0,0,0⟩:Fr)],CC++[(⟨5,now,N.self,x.id,0,e16.to,Nd.callNo N c1⟩:Ev)],GG++[(⟨1,Nd.callNo N c1,N.self,e16.to,x.level,e16.dl,e16.bu,0,0,0,0,0,0,0,0,0,0,0,0,0,0,0,0⟩:Fr)],(c1+1)⟩ [0,1,5,6,49,50] [1,2,3,4,6] [7,8,9,10,11,12,13] ⟨by omega,hcal.need rfl rfl rfl⟩ (by dsimp only;omega) ⟨H,(eqi (by omega)),trivial⟩ H H
   refine J.co 3 H<|O.p (Pu.add' H H (by first|omega|(have h_:=hcal.nn;have h8_:=Nd.planS_len (fun c=>Nd.stepF c k.tier x.level now x.deadline (Nd.cutT d N.ttl c.to x.level now)) N.calls;have h9_:=hN.hc;omega))) H<|O.oc 2 H ?_
   exact J.lq ⟨n1+1,NV,nl,E21,F22,evs1++[(⟨5,now,N.self,x.id,0,e16.to,Nd.callNo N c1⟩:Ev)],frs1++[(⟨1,Nd.callNo N c1,N.self,e16.to,x.level,e16.dl,e16.bu,0,0,0,0,0,0,0,0,0,0,0,0,0,0,0,0⟩:Fr)],CC++[(⟨5,now,N.self,x.id,0,e16.to,Nd.callNo N c1⟩:Ev)],GG++[(⟨1,Nd.callNo N c1,N.self,e16.to,x.level,e16.dl,e16.bu,0,0,0,0,0,0,0,0,0,0,0,0,0,0,0,0⟩:Fr)],(c1+1)⟩ [0,1,5,6,49,50] [0,1,2,3,5] [6,7,8,9,10,11,12] ⟨by omega,hcal.call rfl rfl rfl⟩ (by dsimp only;omega) ⟨H,(eqi (by omega)),trivial⟩ H H
  refine J.cc 2 H ?_
  refine by_bool (decide (nl=[])) (fun h27=>?_) (fun h27=>?_)
  ·
   have p28:=of_decide_eq_true h27
   refine J.region<|O.q (Qt.lva 6 A68 Z68 H H H) H<|O.oo 1 H<|O.l (Lo.ca call193 (jb_DoneE2 x.id x.level x.from_ x.deadline x.budget x.since x.seq nv NV hnv nl (of_decide_eq_true h27)) [] H H (.of 4 row_rd H H .nil)) H ?_
   rintro _ _ ⟨_,⟨rfl,rfl⟩,rfl⟩
   refine O.oo 4 H<|O.l (Lo.al Y68 H) H ?_
   rintro _ _ ⟨g30,rfl,rfl⟩
   refine O.l0 (Lo.st 0 Z68 H H H H H H H) ?_
   rintro _ _ rfl
   refine O.oo 14 H<|O.q (Qt.lv 6 A3 H H H) H<|O.oo 1 H<|O.l (Lo.ca C191 (te_over N now ver many c1 k t EV1 FV1 evs1 frs1 ps jm ws wl x 1 hN hin hx (by first|omega|(have h7_:=hcal.len;have h8_:=Nd.planS_len (fun c=>Nd.stepF c k.tier x.level now x.deadline (Nd.cutT d N.ttl c.to x.level now)) N.calls;have h9_:=hN.hc;omega)) (by first|omega|(have h7_:=hcal.len;have h8_:=Nd.planS_len (fun c=>Nd.stepF c k.tier x.level now x.deadline (Nd.cutT d N.ttl c.to x.level now)) N.calls;have h9_:=hN.hc;omega))) [1,2,3,9,10,11,12] H H (.own 4 H H (.ro 0 H .nil))) H ?_
   rintro _ _ ⟨_,⟨E31,F32,ps33,ws34,rfl,hp35,hin36,rfl⟩,rfl⟩
   refine O.nil ?_
   exact J.rn [] [0,1,2,8,3,4,5,6] H trivial H ⟨_,_,_,_,_,_,_,_,_,H,hin36,⟨CC,GG,hcal.ce,hcal.cf,(fun h_=>⟨List.eq_nil_of_length_eq_zero (by have h1_:=hcal.ne;have h8_:=Nd.planS_len (fun c=>Nd.stepF c k.tier x.level now x.deadline (Nd.cutT d N.ttl c.to x.level now)) N.calls;have h9_:=hN.hc;have h3_:N.calls.length=0:=(by rw [h_];rfl);omega),List.eq_nil_of_length_eq_zero (by have h1_:=hcal.nf;have h8_:=Nd.planS_len (fun c=>Nd.stepF c k.tier x.level now x.deadline (Nd.cutT d N.ttl c.to x.level now)) N.calls;have h9_:=hN.hc;have h3_:N.calls.length=0:=(by rw [h_];rfl);omega)⟩),(by have h1_:=hcal.ne;have h8_:=Nd.planS_len (fun c=>Nd.stepF c k.tier x.level now x.deadline (Nd.cutT d N.ttl c.to x.level now)) N.calls;have h9_:=hN.hc;omega),(by have h1_:=hcal.nf;have h8_:=Nd.planS_len (fun c=>Nd.stepF c k.tier x.level now x.deadline (Nd.cutT d N.ttl c.to x.level now)) N.calls;have h9_:=hN.hc;omega),.inl ⟨1,.inl H,(fun _=>H),hp35,H,(by rw [hcal.e]),(by rw [hcal.f])⟩⟩,⟨hcal.c0,(by have h1_:=hcal.c1;have h8_:=Nd.planS_len (fun c=>Nd.stepF c k.tier x.level now x.deadline (Nd.cutT d N.ttl c.to x.level now)) N.calls;have h9_:=hN.hc;omega)⟩,Nat.le_trans Wt.drop_len (by omega),H⟩
  have p38:=of_decide_eq_false h27
  refine J.region<|O.q (Qt.lva 6 A68 Z68 H H H) H<|O.oo 1 H<|O.l (Lo.ca call193 (jb_Done x.id x.level x.from_ x.deadline x.budget x.since x.seq nv NV nl hnv (by have h_:=hcal.nn;have h8_:=Nd.planS_len (fun c=>Nd.stepF c k.tier x.level now x.deadline (Nd.cutT d N.ttl c.to x.level now)) N.calls;have h9_:=hN.hc;omega) (of_decide_eq_false h27)) [] H H (.of 4 row_rd H H .nil)) H ?_
  rintro _ _ ⟨_,⟨V39,rfl,rfl⟩,rfl⟩
  refine O.oo 4 H<|O.l (Lo.al Y68 H) H ?_
  rintro _ _ ⟨g41,rfl,rfl⟩
  refine O.one (Src.row 1 H) (fun hV42=>?_)
  refine O.l0 (Lo.st 0 Z68 H H H H H (by simp only [List.all_cons,List.all_nil,Bool.and_true,hV42]<;>rfl) H) ?_
  rintro _ _ rfl
  refine O.oc 12 H<|J.drawTail 7 Tryz.mixed (by kernel_rfl)<|S.r 3 H<|S.q (Qt.lv 5 A86 H H H) H<|S.r 1 H<|S.q (Qt.lv 7 A3 H H H) H<|S.q (Qt.lva 0 A68 Z68 H H H) H<|S.endO<|O.l0 (Lo.mapPut (u:=(⟨x,2,V39,Jb.rising nl⟩:Nd.Jb)) 11 N86 N3 H H H H) ?_
  rintro _ _ rfl
  refine O.oc 2 H ?_
  refine J.one (Src.row 1 H) (fun hVj=>?_)
  refine J.re (Re.trans (Re.sn [1,12,0,2,3,4,5,6,7,8,9,10,11,13] H) (Re.hd2 (Nd.nRows_upd hin.j.kd hg (⟨x,2,V39,Jb.rising nl⟩:Nd.Jb))))<|J.co 2 H<|O.q (Qt.lenM U60 H (Src.row 6 H)) H<|O.oc 3 H ?_
  refine J.lo (X:=Nat×Ws×List Pr) (fun (i,ws1,wl1)=>i≤nl.length∧Wt.Rep wl1 ws1∧Nd.WOk wl1 (putI jm x.id (⟨x,2,V39,Jb.rising nl⟩:Nd.Jb))∧wl1.length≤wl.length+i) (fun (i,ws1,wl1)=>[(100,.int .i64 (i:Int))]) (fun (i,ws1,wl1)=>[wt 195 N.w ws1]) (fun (i,ws1,wl1)=>nl.length-i) ⟨0,ws,wl⟩ [0,6,98,99] [12] [0,1,2,3,4,5,6,7,8,9,10,11] ⟨by omega,hin.r,Nd.WOk.put hin.w,by omega⟩ ⟨(eqi (by omega)),trivial⟩ H H ?_
  rintro ⟨i,ws1,wl1⟩ ⟨hi,hr1,hw1,hwn⟩
  refine J.cc 5 H ?_
  refine J.cd H (fun p43=>?_) (fun p43=>?_)
  ·
   refine J.co 5 H ?_
   obtain ⟨e44,he44⟩:=ex_at (l:=nl) (i:=i) (by omega)
   refine O.q (Qt.ix U60 Z3 H (Src.row 7 H) he44 H (by rfl)) H<|O.q (Qt.le A3 (Src.row 7 H) he44 0 H (by omega) H) H<|O.oc 2 H<|J.drawTail 7 Tryz.mixed (by kernel_rfl)<|S.r 3 H<|S.q (Qt.lv 6 A87 H H H) H<|S.r 2 H<|S.q (Qt.lv 8 A3 H H H) H<|S.endO<|O.l (Lo.ca call194 (wt_Add N.w ws1 wl1 hr1 e44 x.id) [0] H H .nil) H ?_
   rintro _ _ ⟨_,⟨rfl,ws45,hr46,rfl⟩,rfl⟩
   refine O.oo 3 H<|O.p (Pu.add' H H (by first|omega|(have h_:=hcal.nn;have h8_:=Nd.planS_len (fun c=>Nd.stepF c k.tier x.level now x.deadline (Nd.cutT d N.ttl c.to x.level now)) N.calls;have h9_:=hN.hc;omega))) H<|O.oc 2 H ?_
   exact J.lq ⟨i+1,ws45,Wt.add wl1 e44 x.id⟩ [0,6,98,99] [0] [1,2,3,4,5,6,7,8,9,10,11,12] ⟨by omega,hr46,hw1.add (by rw [getI_putI,if_pos rfl];rfl),(by have h_:=Nd.add_len (l:=wl1) (c:=e44) (j:=x.id);omega)⟩ (by dsimp only;omega) ⟨(eqi (by omega)),trivial⟩ H H
  refine J.cc 1 H ?_
  exact J.dn [] [3,4,5,6,11,12,1,0] H trivial H ⟨_,_,_,_,_,_,_,_,_,H,⟨hin.hl,hin.hb,hin.j.upd (j':=(⟨x,2,V39,Jb.rising nl⟩:Nd.Jb)) hg hjx.symm ⟨.inr H,(by have h1_:=Jb.rising_len (l:=nl);have h2_:=hcal.nn;have h8_:=Nd.planS_len (fun c=>Nd.stepF c k.tier x.level now x.deadline (Nd.cutT d N.ttl c.to x.level now)) N.calls;have h9_:=hN.hc;show (Jb.rising nl).length≤100;omega),hVj,Jb.rising_up nl⟩,hr1,hw1,(by have h2_:=hcal.nn;have h8_:=Nd.planS_len (fun c=>Nd.stepF c k.tier x.level now x.deadline (Nd.cutT d N.ttl c.to x.level now)) N.calls;have h9_:=hN.hc;omega)⟩,⟨CC,GG,hcal.ce,hcal.cf,(fun h_=>⟨List.eq_nil_of_length_eq_zero (by have h1_:=hcal.ne;have h8_:=Nd.planS_len (fun c=>Nd.stepF c k.tier x.level now x.deadline (Nd.cutT d N.ttl c.to x.level now)) N.calls;have h9_:=hN.hc;have h3_:N.calls.length=0:=(by rw [h_];rfl);omega),List.eq_nil_of_length_eq_zero (by have h1_:=hcal.nf;have h8_:=Nd.planS_len (fun c=>Nd.stepF c k.tier x.level now x.deadline (Nd.cutT d N.ttl c.to x.level now)) N.calls;have h9_:=hN.hc;have h3_:N.calls.length=0:=(by rw [h_];rfl);omega)⟩),(by have h1_:=hcal.ne;have h8_:=Nd.planS_len (fun c=>Nd.stepF c k.tier x.level now x.deadline (Nd.cutT d N.ttl c.to x.level now)) N.calls;have h9_:=hN.hc;omega),(by have h1_:=hcal.nf;have h8_:=Nd.planS_len (fun c=>Nd.stepF c k.tier x.level now x.deadline (Nd.cutT d N.ttl c.to x.level now)) N.calls;have h9_:=hN.hc;omega),.inr ⟨(fun h_=>of_decide_eq_false h27 (List.eq_nil_of_length_eq_zero (by have h1_:=hcal.nn;have h8_:=Nd.planS_len (fun c=>Nd.stepF c k.tier x.level now x.deadline (Nd.cutT d N.ttl c.to x.level now)) N.calls;have h9_:=hN.hc;have h3_:N.calls.length=0:=(by rw [h_];rfl);omega))),H,hcal.e,hcal.f,(⟨x,2,V39,Jb.rising nl⟩:Nd.Jb),H,H⟩⟩,⟨hcal.c0,(by have h1_:=hcal.c1;have h8_:=Nd.planS_len (fun c=>Nd.stepF c k.tier x.level now x.deadline (Nd.cutT d N.ttl c.to x.level now)) N.calls;have h9_:=hN.hc;omega)⟩,(by have h2_:=hcal.nn;have h8_:=Nd.planS_len (fun c=>Nd.stepF c k.tier x.level now x.deadline (Nd.cutT d N.ttl c.to x.level now)) N.calls;have h9_:=hN.hc;omega),H⟩
 refine A.mx [(0,false),(1,false),(2,false),(3,false),(4,false),(5,false),(6,false),(7,false),(8,false),(9,false),(10,false),(11,false),(12,false),(13,false),(14,false),(15,false),(16,false),(17,false),(18,false),(19,true),(20,true),(21,true)] [0,5] (by kernel_rfl) H<|Mx.r 3 H<|Mx.q H (Qt.lva 1 A56 Z56 H H H) H<|Mx.r 1 H<|Mx.call (vs:=[.pointer (some ⟨N.n,0,none⟩)]) (caps:=[]) H (by exact call19) H H (nw_Tier N now ver many calls k) (fun _ _ h=>h) (RoOk.of 1 H same_rd [] (by decide) H (RoOk.ro 0 H [] H RoOk.nil)) H<|Mx.r 1 H<|Mx.q H (Qt.lv 0 A3 H H H) H<|Mx.r 3 H<|Mx.q H (Qt.lv 1 A3 H H H) H<|Mx.r 1 H<|Mx.q H (Qt.lv 0 A3 H H H) H<|Mx.p H (Pu.build [(0,.int .i64 k.tier),(1,.int .i64 x.level),(2,.int .i64 now),(3,.int .i64 x.deadline)] [.int .i64 k.tier,.int .i64 x.level,.int .i64 now,.int .i64 x.deadline] #[(0,1),(1,1),(2,1),(3,1)] runUnderlying273 zeroValue273 (places273 underlying273) H (by kernel_rfl)) H<|Mx.r 3 H<|Mx.q H (Qt.lv 1 isAgg88 H H H) H<|Mx.l H (Lo.ca call190 (fa_Plan N.tb N.ttl d k.tier x.level now x.deadline N.wk N.qn N.win N.tiers N.se N.ttl N.f0 N.f1 N.f2 N.f3 N.f4 N.f5 N.f6 N.cv N.calls hN.hcv (by have h_:=hN.hc;omega)) [] H H (.ro 2 H (.ro 1 H .nil))) H ?_
 rintro _ _ ⟨_,⟨V48,rfl,rfl⟩,rfl⟩
 refine MxK.al [1,6] H (by kernel_rfl)<|Mx.l H (Lo.al Y236 H) H ?_
 rintro _ _ ⟨g50,rfl,rfl⟩
 refine MxK.al [2,7] H (by kernel_rfl) ?_
 refine Mx.one H (fun _ h=>by cases h<;>rfl) (Src.row 1 H) (fun hV51=>?_)
 refine Mx.l0 H (Lo.st 0 Z236 H H H H H (by simp only [List.all_cons,List.all_nil,Bool.and_true,hV51]<;>rfl) H) ?_
 rintro _ _ rfl
 refine MxK.al [2,7] H (by kernel_rfl)<|Mx.nil<|J.co 4 H<|O.q (Qt.lv 0 A3 H H H) H<|O.oc 2 H ?_
 refine J.cd H (fun p52=>?_) (fun p52=>?_)
 ·
  refine J.co 4 H<|O.q (Qt.lv 2 A3 H H H) H<|O.oo 1 H<|O.q (Qt.lv 0 A3 H H H) H<|O.l (Lo.ca C191 (te_over N now ver many calls k t EV FV evs frs ps jm ws wl x ((Nd.planS (fun c=>Nd.stepF c k.tier x.level now x.deadline (Nd.cutT d N.ttl c.to x.level now)) N.calls).1) hN hin hx (by first|omega|(have h7_:=hcal.len;have h8_:=Nd.planS_len (fun c=>Nd.stepF c k.tier x.level now x.deadline (Nd.cutT d N.ttl c.to x.level now)) N.calls;have h9_:=hN.hc;omega)) (by first|omega|(have h7_:=hcal.len;have h8_:=Nd.planS_len (fun c=>Nd.stepF c k.tier x.level now x.deadline (Nd.cutT d N.ttl c.to x.level now)) N.calls;have h9_:=hN.hc;omega))) [4,5,6,8,9,10,11] H H (.own 7 H H (.ro 0 H .nil))) H ?_
  rintro _ _ ⟨_,⟨E53,F54,ps55,ws56,rfl,hp57,hin58,rfl⟩,rfl⟩
  refine O.nil ?_
  exact J.rn [] [0,1,2,11,3,4,5,6] H trivial H ⟨_,_,_,_,_,_,_,_,_,H,hin58,⟨[],[],(by simp),(by simp),(fun _=>⟨H,H⟩),(by simp),(by simp),.inl ⟨(Nd.planS (fun c=>Nd.stepF c k.tier x.level now x.deadline (Nd.cutT d N.ttl c.to x.level now)) N.calls).1,(by have h_:=Nd.planS_code (f:=(fun c=>Nd.stepF c k.tier x.level now x.deadline (Nd.cutT d N.ttl c.to x.level now))) (fun c=>Nd.stepF_code ..) N.calls;omega),(fun h_=>absurd (by rw [Nd.planS_nil h_]) (by assumption:(Nd.planS (fun c=>Nd.stepF c k.tier x.level now x.deadline (Nd.cutT d N.ttl c.to x.level now)) N.calls).1≠0)),hp57,H,(by simp),(by simp)⟩⟩,⟨Int.le_refl _,by omega⟩,Nat.le_trans Wt.drop_len (by omega),H⟩
 refine J.cc 7 H<|J.nr 3 1 (([]:List Int).map encZ) H<|J.co 2 H<|O.q (Qt.lv 1 isAgg234 H H H) H<|O.q (Qt.lenM U234 H (Src.row 2 H)) H<|O.oc 3 H ?_
 refine J.lo (X:=Nat×Value×List Int×Value×Value×List Ev×List Fr×List Ev×List Fr×Int) (fun (n1,NV,nl,EV1,FV1,evs1,frs1,CC,GG,c1)=>n1≤(Nd.planS (fun c=>Nd.stepF c k.tier x.level now x.deadline (Nd.cutT d N.ttl c.to x.level now)) N.calls).2.length∧Nd.CalR x n1 evs evs1 frs frs1 calls c1 nl CC GG) (fun (n1,NV,nl,EV1,FV1,evs1,frs1,CC,GG,c1)=>[(8,NV),(51,.int .i64 (n1:Int))]) (fun (n1,NV,nl,EV1,FV1,evs1,frs1,CC,GG,c1)=>[var t [.pointer (some ⟨N.n,0,none⟩),EV1,FV1] 261,row EV1 51 7 (evs1.map Ev.cells),row FV1 62 23 (frs1.map Fr.cells),var N.n (Nd.nC N now ver many c1) 90,row NV 3 1 (nl.map encZ)]) (fun (n1,NV,nl,EV1,FV1,evs1,frs1,CC,GG,c1)=>(Nd.planS (fun c=>Nd.stepF c k.tier x.level now x.deadline (Nd.cutT d N.ttl c.to x.level now)) N.calls).2.length-n1) ⟨0,Value.slice none 0 0,[],EV,FV,evs,frs,[],[],calls⟩ [0,1,5,6,49,50] [5,6,7,8,0] [3,4,2,9,10,11,12] ⟨by omega,Nd.CalR.zero⟩ ⟨H,(eqi (by omega)),trivial⟩ H H ?_
 rintro ⟨n1,NV,nl,EV1,FV1,evs1,frs1,CC,GG,c1⟩ ⟨hk,hcal⟩
 refine J.cc 5 H ?_
 refine J.cd H (fun p60=>?_) (fun p60=>?_)
 ·
  refine J.co 5 H ?_
  obtain ⟨e61,he61⟩:=ex_at (l:=((Nd.planS (fun c=>Nd.stepF c k.tier x.level now x.deadline (Nd.cutT d N.ttl c.to x.level now)) N.calls).2)) (i:=n1) (by omega)
  refine O.q (Qt.ix U234 Z241 H (Src.row 7 H) he61 H (by rfl)) H<|O.q (Qt.lea A241 Z241 (Src.row 7 H) he61 0 H (by omega) H) H<|O.l (Lo.al Y241 H) H ?_
  rintro _ _ ⟨g62,rfl,rfl⟩
  refine O.l0 (Lo.st 0 Z241 H H H H H H H) ?_
  rintro _ _ rfl
  refine O.oo 5 H<|O.q (Qt.lv 0 A3 H H H) H<|O.oc 2 H ?_
  refine J.cd H (fun p63=>?_) (fun p63=>?_)
  ·
   refine J.co 4 H<|O.q (Qt.lv 6 A3 H H H) H<|O.oo 1 H<|O.q (Qt.lv 0 A3 H H H) H<|O.oo 1 H<|O.q (Qt.lv 0 A3 H H H) H<|O.l (Lo.ca C80 (te_event N now ver many c1 t EV1 FV1 evs1 6 x.id e61.code e61.to 0 (by first|omega|(have h7_:=hcal.len;have h8_:=Nd.planS_len (fun c=>Nd.stepF c k.tier x.level now x.deadline (Nd.cutT d N.ttl c.to x.level now)) N.calls;have h9_:=hN.hc;omega))) [1,2] H H (.own 4 H H .nil)) H ?_
   rintro _ _ ⟨_,⟨E64,rfl,rfl⟩,rfl⟩
   refine O.oo 3 H<|O.p (Pu.add' H H (by first|omega|(have h_:=hcal.nn;have h8_:=Nd.planS_len (fun c=>Nd.stepF c k.tier x.level now x.deadline (Nd.cutT d N.ttl c.to x.level now)) N.calls;have h9_:=hN.hc;omega))) H<|O.oc 2 H ?_
   exact J.lq ⟨n1+1,NV,nl,E64,FV1,evs1++[(⟨6,now,N.self,x.id,e61.code,e61.to,0⟩:Ev)],frs1,CC++[(⟨6,now,N.self,x.id,e61.code,e61.to,0⟩:Ev)],GG,c1⟩ [0,1,5,6,49,50] [0,1,3,4,5] [6,7,8,9,10,11,12] ⟨by omega,hcal.skip rfl rfl⟩ (by dsimp only;omega) ⟨H,(eqi (by omega)),trivial⟩ H H
  refine J.co 4 H<|O.q (Qt.lva 6 A66 Z66 H H H) H<|O.q (Qt.lva 0 A241 Z241 H H H) H<|O.l (Lo.ca call192 (te_call N now ver many c1 t EV1 FV1 evs1 frs1 x e61.to e61.code e61.dl e61.bu e61.rq hN (by have h_:=hcal.c0;omega) (by have h_:=hcal.c1;have h8_:=Nd.planS_len (fun c=>Nd.stepF c k.tier x.level now x.deadline (Nd.cutT d N.ttl c.to x.level now)) N.calls;have h9_:=hN.hc;omega) (by first|omega|(have h7_:=hcal.len;have h8_:=Nd.planS_len (fun c=>Nd.stepF c k.tier x.level now x.deadline (Nd.cutT d N.ttl c.to x.level now)) N.calls;have h9_:=hN.hc;omega)) (by first|omega|(have h7_:=hcal.len;have h8_:=Nd.planS_len (fun c=>Nd.stepF c k.tier x.level now x.deadline (Nd.cutT d N.ttl c.to x.level now)) N.calls;have h9_:=hN.hc;omega))) [1,2,3,4] H H .nil) H ?_
  rintro _ _ ⟨_,⟨E66,F67,rfl,rfl⟩,rfl⟩
  refine O.oo 5 H<|O.q (Qt.lv 4 A4 H H H) H<|O.nil ?_
  refine J.cond H (fun h69=>?_) (fun h69=>?_)
  ·
   refine J.co 3 H<|O.l (Lo.bm encZ [Nd.callNo N c1] U60 Z3 Y3 H H H (by kernel_rfl) H H) H ?_
   rintro V70 _ rfl
   refine O.l (Lo.am 6 N60 info3 H H H H H (Src.row 0 H) encZ.one (by first|omega|(have h_:=hcal.nn;have h8_:=Nd.planS_len (fun c=>Nd.stepF c k.tier x.level now x.deadline (Nd.cutT d N.ttl c.to x.level now)) N.calls;have h9_:=hN.hc;first|omega|(simp only [List.length_append,List.length_cons,List.length_nil];omega))) (by first|omega|(have h_:=hcal.nn;have h8_:=Nd.planS_len (fun c=>Nd.stepF c k.tier x.level now x.deadline (Nd.cutT d N.ttl c.to x.level now)) N.calls;have h9_:=hN.hc;first|omega|(simp only [List.length_append,List.length_cons,List.length_nil];omega)))) H ?_
   rintro V71 _ rfl
   refine O.oo 4 H<|O.p (Pu.add' H H (by first|omega|(have h_:=hcal.nn;have h8_:=Nd.planS_len (fun c=>Nd.stepF c k.tier x.level now x.deadline (Nd.cutT d N.ttl c.to x.level now)) N.calls;have h9_:=hN.hc;omega))) H<|O.oc 2 H ?_
   exact J.lq ⟨n1+1,V71,nl++([Nd.callNo N c1]),E66,F67,evs1++[(⟨5,now,N.self,x.id,0,e61.to,Nd.callNo N c1⟩:Ev)],frs1++[(⟨1,Nd.callNo N c1,N.self,e61.to,x.level,e61.dl,e61.bu,0,0,0,0,0,0,0,0,0,0,0,0,0,0,0,0⟩:Fr)],CC++[(⟨5,now,N.self,x.id,0,e61.to,Nd.callNo N c1⟩:Ev)],GG++[(⟨1,Nd.callNo N c1,N.self,e61.to,x.level,e61.dl,e61.bu,0,0,0,0,0,0,0,0,0,0,0,0,0,0,0,0⟩:Fr)],(c1+1)⟩ [0,1,5,6,49,50] [1,2,3,4,6] [7,8,9,10,11,12,13] ⟨by omega,hcal.need rfl rfl rfl⟩ (by dsimp only;omega) ⟨H,(eqi (by omega)),trivial⟩ H H
  refine J.co 3 H<|O.p (Pu.add' H H (by first|omega|(have h_:=hcal.nn;have h8_:=Nd.planS_len (fun c=>Nd.stepF c k.tier x.level now x.deadline (Nd.cutT d N.ttl c.to x.level now)) N.calls;have h9_:=hN.hc;omega))) H<|O.oc 2 H ?_
  exact J.lq ⟨n1+1,NV,nl,E66,F67,evs1++[(⟨5,now,N.self,x.id,0,e61.to,Nd.callNo N c1⟩:Ev)],frs1++[(⟨1,Nd.callNo N c1,N.self,e61.to,x.level,e61.dl,e61.bu,0,0,0,0,0,0,0,0,0,0,0,0,0,0,0,0⟩:Fr)],CC++[(⟨5,now,N.self,x.id,0,e61.to,Nd.callNo N c1⟩:Ev)],GG++[(⟨1,Nd.callNo N c1,N.self,e61.to,x.level,e61.dl,e61.bu,0,0,0,0,0,0,0,0,0,0,0,0,0,0,0,0⟩:Fr)],(c1+1)⟩ [0,1,5,6,49,50] [0,1,2,3,5] [6,7,8,9,10,11,12] ⟨by omega,hcal.call rfl rfl rfl⟩ (by dsimp only;omega) ⟨H,(eqi (by omega)),trivial⟩ H H
 refine J.cc 2 H ?_
 refine by_bool (decide (nl=[])) (fun h72=>?_) (fun h72=>?_)
 ·
  have p73:=of_decide_eq_true h72
  refine J.region<|O.q (Qt.lva 6 A68 Z68 H H H) H<|O.oo 1 H<|O.l (Lo.ca call193 (jb_DoneE2 x.id x.level x.from_ x.deadline x.budget x.since x.seq nv NV hnv nl (of_decide_eq_true h72)) [] H H (.of 4 row_rd H H .nil)) H ?_
  rintro _ _ ⟨_,⟨rfl,rfl⟩,rfl⟩
  refine O.oo 4 H<|O.l (Lo.al Y68 H) H ?_
  rintro _ _ ⟨g75,rfl,rfl⟩
  refine O.l0 (Lo.st 0 Z68 H H H H H H H) ?_
  rintro _ _ rfl
  refine O.oo 14 H<|O.q (Qt.lv 6 A3 H H H) H<|O.oo 1 H<|O.l (Lo.ca C191 (te_over N now ver many c1 k t EV1 FV1 evs1 frs1 ps jm ws wl x 1 hN hin hx (by first|omega|(have h7_:=hcal.len;have h8_:=Nd.planS_len (fun c=>Nd.stepF c k.tier x.level now x.deadline (Nd.cutT d N.ttl c.to x.level now)) N.calls;have h9_:=hN.hc;omega)) (by first|omega|(have h7_:=hcal.len;have h8_:=Nd.planS_len (fun c=>Nd.stepF c k.tier x.level now x.deadline (Nd.cutT d N.ttl c.to x.level now)) N.calls;have h9_:=hN.hc;omega))) [1,2,3,9,10,11,12] H H (.own 4 H H (.ro 0 H .nil))) H ?_
  rintro _ _ ⟨_,⟨E76,F77,ps78,ws79,rfl,hp80,hin81,rfl⟩,rfl⟩
  refine O.nil ?_
  exact J.rn [] [0,1,2,8,3,4,5,6] H trivial H ⟨_,_,_,_,_,_,_,_,_,H,hin81,⟨CC,GG,hcal.ce,hcal.cf,(fun h_=>⟨List.eq_nil_of_length_eq_zero (by have h1_:=hcal.ne;have h8_:=Nd.planS_len (fun c=>Nd.stepF c k.tier x.level now x.deadline (Nd.cutT d N.ttl c.to x.level now)) N.calls;have h9_:=hN.hc;have h3_:N.calls.length=0:=(by rw [h_];rfl);omega),List.eq_nil_of_length_eq_zero (by have h1_:=hcal.nf;have h8_:=Nd.planS_len (fun c=>Nd.stepF c k.tier x.level now x.deadline (Nd.cutT d N.ttl c.to x.level now)) N.calls;have h9_:=hN.hc;have h3_:N.calls.length=0:=(by rw [h_];rfl);omega)⟩),(by have h1_:=hcal.ne;have h8_:=Nd.planS_len (fun c=>Nd.stepF c k.tier x.level now x.deadline (Nd.cutT d N.ttl c.to x.level now)) N.calls;have h9_:=hN.hc;omega),(by have h1_:=hcal.nf;have h8_:=Nd.planS_len (fun c=>Nd.stepF c k.tier x.level now x.deadline (Nd.cutT d N.ttl c.to x.level now)) N.calls;have h9_:=hN.hc;omega),.inl ⟨1,.inl H,(fun _=>H),hp80,H,(by rw [hcal.e]),(by rw [hcal.f])⟩⟩,⟨hcal.c0,(by have h1_:=hcal.c1;have h8_:=Nd.planS_len (fun c=>Nd.stepF c k.tier x.level now x.deadline (Nd.cutT d N.ttl c.to x.level now)) N.calls;have h9_:=hN.hc;omega)⟩,Nat.le_trans Wt.drop_len (by omega),H⟩
 have p83:=of_decide_eq_false h72
 refine J.region<|O.q (Qt.lva 6 A68 Z68 H H H) H<|O.oo 1 H<|O.l (Lo.ca call193 (jb_Done x.id x.level x.from_ x.deadline x.budget x.since x.seq nv NV nl hnv (by have h_:=hcal.nn;have h8_:=Nd.planS_len (fun c=>Nd.stepF c k.tier x.level now x.deadline (Nd.cutT d N.ttl c.to x.level now)) N.calls;have h9_:=hN.hc;omega) (of_decide_eq_false h72)) [] H H (.of 4 row_rd H H .nil)) H ?_
 rintro _ _ ⟨_,⟨V84,rfl,rfl⟩,rfl⟩
 refine O.oo 4 H<|O.l (Lo.al Y68 H) H ?_
 rintro _ _ ⟨g86,rfl,rfl⟩
 refine O.one (Src.row 1 H) (fun hV87=>?_)
 refine O.l0 (Lo.st 0 Z68 H H H H H (by simp only [List.all_cons,List.all_nil,Bool.and_true,hV87]<;>rfl) H) ?_
 rintro _ _ rfl
 refine O.oc 12 H<|J.drawTail 7 Tryz.mixed (by kernel_rfl)<|S.r 3 H<|S.q (Qt.lv 5 A86 H H H) H<|S.r 1 H<|S.q (Qt.lv 7 A3 H H H) H<|S.q (Qt.lva 0 A68 Z68 H H H) H<|S.endO<|O.l0 (Lo.mapPut (u:=(⟨x,2,V84,Jb.rising nl⟩:Nd.Jb)) 11 N86 N3 H H H H) ?_
 rintro _ _ rfl
 refine O.oc 2 H ?_
 refine J.one (Src.row 1 H) (fun hVj=>?_)
 refine J.re (Re.trans (Re.sn [1,12,0,2,3,4,5,6,7,8,9,10,11,13] H) (Re.hd2 (Nd.nRows_upd hin.j.kd hg (⟨x,2,V84,Jb.rising nl⟩:Nd.Jb))))<|J.co 2 H<|O.q (Qt.lenM U60 H (Src.row 6 H)) H<|O.oc 3 H ?_
 refine J.lo (X:=Nat×Ws×List Pr) (fun (i,ws1,wl1)=>i≤nl.length∧Wt.Rep wl1 ws1∧Nd.WOk wl1 (putI jm x.id (⟨x,2,V84,Jb.rising nl⟩:Nd.Jb))∧wl1.length≤wl.length+i) (fun (i,ws1,wl1)=>[(100,.int .i64 (i:Int))]) (fun (i,ws1,wl1)=>[wt 195 N.w ws1]) (fun (i,ws1,wl1)=>nl.length-i) ⟨0,ws,wl⟩ [0,6,98,99] [12] [0,1,2,3,4,5,6,7,8,9,10,11] ⟨by omega,hin.r,Nd.WOk.put hin.w,by omega⟩ ⟨(eqi (by omega)),trivial⟩ H H ?_
 rintro ⟨i,ws1,wl1⟩ ⟨hi,hr1,hw1,hwn⟩
 refine J.cc 5 H ?_
 refine J.cd H (fun p88=>?_) (fun p88=>?_)
 ·
  refine J.co 5 H ?_
  obtain ⟨e89,he89⟩:=ex_at (l:=nl) (i:=i) (by omega)
  refine O.q (Qt.ix U60 Z3 H (Src.row 7 H) he89 H (by rfl)) H<|O.q (Qt.le A3 (Src.row 7 H) he89 0 H (by omega) H) H<|O.oc 2 H<|J.drawTail 7 Tryz.mixed (by kernel_rfl)<|S.r 3 H<|S.q (Qt.lv 6 A87 H H H) H<|S.r 2 H<|S.q (Qt.lv 8 A3 H H H) H<|S.endO<|O.l (Lo.ca call194 (wt_Add N.w ws1 wl1 hr1 e89 x.id) [0] H H .nil) H ?_
  rintro _ _ ⟨_,⟨rfl,ws90,hr91,rfl⟩,rfl⟩
  refine O.oo 3 H<|O.p (Pu.add' H H (by first|omega|(have h_:=hcal.nn;have h8_:=Nd.planS_len (fun c=>Nd.stepF c k.tier x.level now x.deadline (Nd.cutT d N.ttl c.to x.level now)) N.calls;have h9_:=hN.hc;omega))) H<|O.oc 2 H ?_
  exact J.lq ⟨i+1,ws90,Wt.add wl1 e89 x.id⟩ [0,6,98,99] [0] [1,2,3,4,5,6,7,8,9,10,11,12] ⟨by omega,hr91,hw1.add (by rw [getI_putI,if_pos rfl];rfl),(by have h_:=Nd.add_len (l:=wl1) (c:=e89) (j:=x.id);omega)⟩ (by dsimp only;omega) ⟨(eqi (by omega)),trivial⟩ H H
 refine J.cc 1 H ?_
 exact J.dn [] [3,4,5,6,11,12,1,0] H trivial H ⟨_,_,_,_,_,_,_,_,_,H,⟨hin.hl,hin.hb,hin.j.upd (j':=(⟨x,2,V84,Jb.rising nl⟩:Nd.Jb)) hg hjx.symm ⟨.inr H,(by have h1_:=Jb.rising_len (l:=nl);have h2_:=hcal.nn;have h8_:=Nd.planS_len (fun c=>Nd.stepF c k.tier x.level now x.deadline (Nd.cutT d N.ttl c.to x.level now)) N.calls;have h9_:=hN.hc;show (Jb.rising nl).length≤100;omega),hVj,Jb.rising_up nl⟩,hr1,hw1,(by have h2_:=hcal.nn;have h8_:=Nd.planS_len (fun c=>Nd.stepF c k.tier x.level now x.deadline (Nd.cutT d N.ttl c.to x.level now)) N.calls;have h9_:=hN.hc;omega)⟩,⟨CC,GG,hcal.ce,hcal.cf,(fun h_=>⟨List.eq_nil_of_length_eq_zero (by have h1_:=hcal.ne;have h8_:=Nd.planS_len (fun c=>Nd.stepF c k.tier x.level now x.deadline (Nd.cutT d N.ttl c.to x.level now)) N.calls;have h9_:=hN.hc;have h3_:N.calls.length=0:=(by rw [h_];rfl);omega),List.eq_nil_of_length_eq_zero (by have h1_:=hcal.nf;have h8_:=Nd.planS_len (fun c=>Nd.stepF c k.tier x.level now x.deadline (Nd.cutT d N.ttl c.to x.level now)) N.calls;have h9_:=hN.hc;have h3_:N.calls.length=0:=(by rw [h_];rfl);omega)⟩),(by have h1_:=hcal.ne;have h8_:=Nd.planS_len (fun c=>Nd.stepF c k.tier x.level now x.deadline (Nd.cutT d N.ttl c.to x.level now)) N.calls;have h9_:=hN.hc;omega),(by have h1_:=hcal.nf;have h8_:=Nd.planS_len (fun c=>Nd.stepF c k.tier x.level now x.deadline (Nd.cutT d N.ttl c.to x.level now)) N.calls;have h9_:=hN.hc;omega),.inr ⟨(fun h_=>of_decide_eq_false h72 (List.eq_nil_of_length_eq_zero (by have h1_:=hcal.nn;have h8_:=Nd.planS_len (fun c=>Nd.stepF c k.tier x.level now x.deadline (Nd.cutT d N.ttl c.to x.level now)) N.calls;have h9_:=hN.hc;have h3_:N.calls.length=0:=(by rw [h_];rfl);omega))),H,hcal.e,hcal.f,(⟨x,2,V84,Jb.rising nl⟩:Nd.Jb),H,H⟩⟩,⟨hcal.c0,(by have h1_:=hcal.c1;have h8_:=Nd.planS_len (fun c=>Nd.stepF c k.tier x.level now x.deadline (Nd.cutT d N.ttl c.to x.level now)) N.calls;have h9_:=hN.hc;omega)⟩,(by have h2_:=hcal.nn;have h8_:=Nd.planS_len (fun c=>Nd.stepF c k.tier x.level now x.deadline (Nd.cutT d N.ttl c.to x.level now)) N.calls;have h9_:=hN.hc;omega),H⟩
theorem nw_Req1 (t gn gr:Nat) (N:Nd.Nc) (Z:Nd.Sx) (n:Nat) (id fr to level dl bu:Int) (hN:N.Ok) (hS:Z.Ok N) (hlt:Z.Lt n) (hn:n≤9000):Tri prog 77 #[.pointer (some ⟨t,0,none⟩),.pointer (some ⟨gn,0,none⟩),.pointer (some ⟨gr,0,none⟩)] [var gn [.pointer (some ⟨N.n,0,none⟩)] 29,var gr [.int .i64 id,.int .i64 fr,.int .i64 to,.int .i64 level,.int .i64 dl,.int .i64 bu] 41] (tlA N t (.slice none 0 0) (.slice none 0 0) [] []++ndA N Z) (fun v L'=>OutC N t (fun S' es fs e=>S'.Ok N∧S'.Lt (n+1)∧Nd.ReqR N Z id fr to level dl bu S' es fs e) v L'):=by
 refine Tri.en func77 H ntmps77 H fun w0=>J.co 7 H<|O.q (Qt.lw 0 A29 H H H) H<|O.q (Qt.lwa 1 A41 Z41 H H H) H<|O.l (Lo.ca call78 (nw_right N Z.now Z.ver Z.many Z.calls id fr to level dl bu hN) [] H H (.own 3 H H (.of 13 row_rd H H .nil))) H ?_
 rintro _ _ ⟨_,⟨rfl,rfl⟩,rfl⟩
 refine O.oc 2 H ?_
 refine J.cond H (fun h2=>?_) (fun h2=>?_)
 ·
  have h3:(Nd.rightQ N id fr to level dl bu)=false:=not_flip h2
  refine J.cc 4 H ?_
  exact J.r1 [0,1,2,3,4,5,6,7,8,9,10,11,12,13] H H H ⟨(⟨Z.now,Z.ver,Z.many,Z.calls,Z.k,Z.sn,Z.q,Z.ps,Z.jm,Z.ws,Z.wl,Z.d⟩:Nd.Sx),_,_,([]:List Ev),([]:List Fr),1,⟨⟨hS.k,hS.sn,hS.q,hS.i,hS.ids,hS.n0,hS.n1,hS.m0,hS.c0⟩,⟨by have h_:=hlt.m;dsimp only;omega,by have h_:=hlt.c;dsimp only;omega,by have h_:=hlt.w;dsimp only;omega,by omega⟩,.inl ⟨h3,H,H,H,H⟩⟩,H,H⟩
 have h4:(Nd.rightQ N id fr to level dl bu)=true:=not_flip h2
 refine J.co 4 H<|O.q (Qt.lw 0 A29 H H H) H<|O.oo 1 H<|O.q (Qt.lw 1 A3 H H H) H<|O.l (Lo.ca call79 (nw_twice N Z id hN hS) [10] H H (.own 3 H H (.own 5 H H (.own 7 H H .nil)))) H ?_
 rintro _ _ ⟨_,⟨sn5,hsn6,hmem7,rfl,rfl⟩,rfl⟩
 refine O.nil ?_
 refine J.cond H (fun h9=>?_) (fun h9=>?_)
 ·
  refine J.co 4 H<|O.q (Qt.lw 1 A3 H H H) H<|O.l (Lo.ca C80 (te_event N Z.now Z.ver Z.many Z.calls t (Value.slice none 0 0) (Value.slice none 0 0) ([]:List Ev) 2 id 0 0 0 (by first|omega|(simp only [List.length_append,List.length_cons,List.length_nil];omega)|(have h_:=hline.len;simp only [List.length_append,List.length_cons,List.length_nil] at h_;omega))) [1,2] H H (.own 4 H H .nil)) H ?_
  rintro _ _ ⟨_,⟨E10,rfl,rfl⟩,rfl⟩
  refine O.oc 5 H ?_
  exact J.r1 [0,1,3,4,5,6,7,8,9,10,2,11,12,13] H H H ⟨(⟨Z.now,Z.ver,Z.many,Z.calls,Z.k,sn5,Z.q,Z.ps,Z.jm,Z.ws,Z.wl,Z.d⟩:Nd.Sx),_,_,([]:List Ev)++[(⟨2,Z.now,N.self,id,0,0,0⟩:Ev)],([]:List Fr),0,⟨⟨hS.k,hsn6,hS.q,hS.i,hS.ids,hS.n0,hS.n1,hS.m0,hS.c0⟩,⟨by have h_:=hlt.m;dsimp only;omega,by have h_:=hlt.c;dsimp only;omega,by have h_:=hlt.w;dsimp only;omega,by omega⟩,.inr ⟨h4,H,hmem7,⟨H,H,(Nd.Kt.Same.refl Z.k)⟩,.inl ⟨h9,H,H,H,H,H⟩⟩⟩,H,H⟩
 refine J.cc 2 H<|J.drawTail 6 Tryz.mixed (by kernel_rfl)<|S.q (Qt.lw 0 A29 H H H) H<|S.r 2 H<|S.q (Qt.lv 4 A82 H H H) H<|S.r 1 H<|S.q (Qt.lw 1 A3 H H H) H<|S.endO<|O.l (Lo.ca call81 (ct_Saw N Z.k level hN hS.k) [5] H H .nil) H ?_
 rintro _ _ ⟨_,⟨k12,hk13,hsm14,rfl,rfl⟩,rfl⟩
 refine O.oo 3 H<|O.q (Qt.lw 0 A29 H H H) H<|O.q (Qt.lwa 1 A41 Z41 H H H) H<|O.l (Lo.ca call82 (nw_comes N Z.now Z.ver Z.many Z.calls k12 id fr to level dl bu) [] H H (.own 5 H H (.own 0 H H .nil))) H ?_
 rintro _ _ ⟨_,⟨rfl,rfl⟩,rfl⟩
 refine O.oc 3 H<|J.drawHead 8 Tryz.mixed (by kernel_rfl)<|Hd.p (Pu.move H) H<|Hd.p (Pu.fieldAddr (off':=0) U41 H Z3 H H H) H<|Hd.q (Qt.lw 1 A3 H H H) H<|Hd.p (Pu.move H) H<|Hd.p (Pu.fieldAddr (off':=3) U41 H Z3 H H H) H<|Hd.q (Qt.lw 1 A3 H H H) H<|Hd.q (Qt.lw 0 A29 H H H) H<|Hd.call (vs:=[.pointer (some ⟨N.n,0,none⟩)]) (caps:=[]) (by exact call18) H H (nw_Threshold N Z.now Z.ver Z.many Z.calls k12) (fun _ _ h=>h) (RoOk.of 5 H same_rd [] (by decide) H (RoOk.of 0 H same_rd [] (by decide) H RoOk.nil)) H<|Hd.nil<|O.l (Lo.ca C80 (te_event N Z.now Z.ver Z.many Z.calls t (Value.slice none 0 0) (Value.slice none 0 0) ([]:List Ev) 1 id (Nd.comes Z.now k12.thr level dl) level k12.thr (by first|omega|(simp only [List.length_append,List.length_cons,List.length_nil];omega)|(have h_:=hline.len;simp only [List.length_append,List.length_cons,List.length_nil] at h_;omega))) [2,3] H H (.own 5 H H .nil)) H ?_
 rintro _ _ ⟨_,⟨E17,rfl,rfl⟩,rfl⟩
 refine O.oc 7 H ?_
 refine J.cd H (fun p19=>?_) (fun p19=>?_)
 ·
  refine J.drawHead 8 Tryz.mixed (by kernel_rfl)<|Hd.p (Pu.move H) H<|Hd.q (Qt.lwa 1 A41 Z41 H H H) H<|Hd.q (Qt.lw 0 A29 H H H) H<|Hd.p (Pu.nilCheck H) H<|Hd.p (Pu.fieldAddr (off':=21) U90 H Z3 H H H) H<|Hd.q (Qt.lv 5 A3 H H H) H<|Hd.call (vs:=[.agg #[.int .i64 id,.int .i64 fr,.int .i64 to,.int .i64 level,.int .i64 dl,.int .i64 bu],.int .i64 Z.now,.int .i64 0]) (caps:=[]) (by exact call84) H H (rq_Item id fr to level dl bu Z.now 0) (fun _ _ h=>h) RoOk.nil H<|Hd.p (Pu.move H) H<|Hd.nil<|O.l (Lo.ca call83 (te_end N Z.now Z.ver Z.many Z.calls k12 t E17 (Value.slice none 0 0) (([]:List Ev)++[(⟨1,Z.now,N.self,id,Nd.comes Z.now k12.thr level dl,level,k12.thr⟩:Ev)]) ([]:List Fr) (⟨id,level,fr,dl,bu,Z.now,0⟩:Im) (Nd.comes Z.now k12.thr level dl) (by first|omega|(simp only [List.length_append,List.length_cons,List.length_nil];omega)|(have h_:=hline.len;simp only [List.length_append,List.length_cons,List.length_nil] at h_;omega)) (by first|omega|(simp only [List.length_append,List.length_cons,List.length_nil];omega)|(have h_:=hline.len;simp only [List.length_append,List.length_cons,List.length_nil] at h_;omega))) [0,1,4] H H (.own 5 H H (.own 2 H H .nil))) H ?_
  rintro _ _ ⟨_,⟨E20,F21,rfl,rfl⟩,rfl⟩
  refine O.oo 4 H<|O.l (Lo.ca C86 (te_on N Z.now Z.ver Z.many Z.calls k12 t E20 F21 ((([]:List Ev)++[(⟨1,Z.now,N.self,id,Nd.comes Z.now k12.thr level dl,level,k12.thr⟩:Ev)])++[Nd.endE Z.now N.self ((⟨id,level,fr,dl,bu,Z.now,0⟩:Im),(Nd.comes Z.now k12.thr level dl))]) Z.q Z.ps Z.jm Z.ws Z.wl hN hk13 hS.q hS.i hS.ids (by first|omega|(simp only [List.length_append,List.length_cons,List.length_nil];omega)|(have h_:=hline.len;simp only [List.length_append,List.length_cons,List.length_nil] at h_;omega))) [0,1,3,6,7,8,9] H H (.own 5 H H .nil)) H ?_
  rintro _ _ ⟨_,⟨k23,q24,ps25,jm26,E27,es28,S29,rfl,hk30,hsm31,hq32,hin33,hon34,hfull35,rfl⟩,rfl⟩
  refine O.oc 5 H ?_
  exact J.r1 [0,1,7,9,2,3,4,5,6,10,8,11,12,13] H H H ⟨(⟨Z.now,Z.ver,Z.many,Z.calls,k23,sn5,q24,ps25,jm26,Z.ws,Z.wl,Z.d⟩:Nd.Sx),_,_,es28,([]:List Fr)++[Nd.endF N.self k12 ((⟨id,level,fr,dl,bu,Z.now,0⟩:Im),(Nd.comes Z.now k12.thr level dl))],0,⟨⟨hk30,hsn6,hq32,hin33,hon34.ids hS.ids,hS.n0,hS.n1,hS.m0,hS.c0⟩,⟨by have h_:=hlt.m;dsimp only;omega,by have h_:=hlt.c;dsimp only;omega,by have h_:=hlt.w;dsimp only;omega,by omega⟩,.inr ⟨h4,H,hmem7,⟨H,H,(hsm14.trans hsm31)⟩,.inr ⟨h9,k12,_,_,S29,hsm14,.inl ⟨of_decide_eq_true (decide_eq_true p19),H,H,H⟩,hon34,hfull35⟩⟩⟩,H,H⟩
 refine J.co 2 H<|O.q (Qt.lwa 1 A41 Z41 H H H) H<|O.l (Lo.ca call85 (te_line N Z.now Z.ver Z.many Z.calls k12 t E17 (Value.slice none 0 0) (([]:List Ev)++[(⟨1,Z.now,N.self,id,Nd.comes Z.now k12.thr level dl,level,k12.thr⟩:Ev)]) ([]:List Fr) Z.q id fr to level dl bu hN hS.q (fun y h_=>Nd.twice_no hS h9 y (List.mem_append_left _ h_)) hS.m0 (by have h_:=hlt.m;omega) (by first|omega|(simp only [List.length_append,List.length_cons,List.length_nil];omega)|(have h_:=hline.len;simp only [List.length_append,List.length_cons,List.length_nil] at h_;omega)) (by first|omega|(simp only [List.length_append,List.length_cons,List.length_nil];omega)|(have h_:=hline.len;simp only [List.length_append,List.length_cons,List.length_nil] at h_;omega))) [0,1,4,5,6] H H (.own 2 H H .nil)) H ?_
 rintro _ _ ⟨_,⟨E37,F38,es39,fs40,q41,rfl,hq42,hline43,rfl⟩,rfl⟩
 have hline:=hline43
 refine O.oo 4 H<|O.l (Lo.ca C86 (te_on N Z.now Z.ver (Z.many+1) Z.calls k12 t E37 F38 es39 q41 Z.ps Z.jm Z.ws Z.wl hN hk13 hq42 hS.i (hline.ids hS.ids (Nd.twice_no hS h9)) (by first|omega|(simp only [List.length_append,List.length_cons,List.length_nil];omega)|(have h_:=hline.len;simp only [List.length_append,List.length_cons,List.length_nil] at h_;omega))) [0,1,5,4,7,8,9] H H (.own 3 H H .nil)) H ?_
 rintro _ _ ⟨_,⟨k45,q46,ps47,jm48,E49,es50,S51,rfl,hk52,hsm53,hq54,hin55,hon56,hfull57,rfl⟩,rfl⟩
 refine O.oc 5 H ?_
 exact J.r1 [0,1,7,8,2,3,4,5,6,10,9,11,12,13] H H H ⟨(⟨Z.now,Z.ver,(Z.many+1),Z.calls,k45,sn5,q46,ps47,jm48,Z.ws,Z.wl,Z.d⟩:Nd.Sx),_,_,es50,fs40,0,⟨⟨hk52,hsn6,hq54,hin55,hon56.ids (hline.ids hS.ids (Nd.twice_no hS h9)),hS.n0,hS.n1,(by have h_:=hS.m0;dsimp only;omega),hS.c0⟩,⟨by have h_:=hlt.m;dsimp only;omega,by have h_:=hlt.c;dsimp only;omega,by have h_:=hlt.w;dsimp only;omega,by omega⟩,.inr ⟨h4,H,hmem7,⟨H,H,(hsm14.trans hsm53)⟩,.inr ⟨h9,k12,_,_,S51,hsm14,.inr ⟨Decidable.not_not.1 p19,hline⟩,hon56,hfull57⟩⟩⟩,H,H⟩
end Go.Proofs.YtohjlkjhpibkmaaGreatDoor
