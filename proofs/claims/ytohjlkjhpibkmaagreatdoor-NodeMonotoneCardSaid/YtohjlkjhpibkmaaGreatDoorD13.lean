/-
  Walks, printed by a program of mine.
-/
import Derived.KernelRfl
import Derived.Test.YtohjlkjhpibkmaaGreatDoorD12
import Derived.Test.YtohjlkjhpibkmaaGreatDoorD05
set_option linter.unusedSimpArgs false
set_option linter.unusedVariables false
namespace Go.Proofs.YtohjlkjhpibkmaaGreatDoor
open Go Go.LK Go.Proofs.Tryz
set_option maxRecDepth 100000
set_option maxHeartbeats 4000000
theorem pi_Len (p b:Nat) (V:Value) (w:Int) (t:List Im):Tri prog 219 #[.pointer (some ⟨p,0,none⟩)] [var p [.map (some b),.int .i64 w,V] 294,rd V 7 (t.map Im.cells)] [] (fun v L'=>v=.int .i64 t.length∧L'=[]):=by
 refine Tri.en func219 H ntmps219 H fun w0=>J.co 8 H<|O.p (Pu.someEq N163 H) H<|O.oo 8 H<|O.q (Qt.lw 0 A52 H H H) H<|O.q (Qt.lenM U52 H (Src.ro 1 H)) H<|O.oc 2 H ?_
 exact J.r0 H H ⟨H,H⟩
theorem pi_Get (p b:Nat) (V:Value) (w:Int) (t:List Im) (m:List (Int×Int)) (id:Int) (ht:t.length≤100000) (hk:Nd.AtOk t m):Tri prog 259 #[.pointer (some ⟨p,0,none⟩),.int .i64 id] [var p [.map (some b),.int .i64 w,V] 294,rd V 7 (t.map Im.cells),mi b (Value.int .i64) m] [] (fun v L'=>∃ x:Im,v=.tuple #[.agg #[.int .i64 x.id,.int .i64 x.level,.int .i64 x.from_,.int .i64 x.deadline,.int .i64 x.budget,.int .i64 x.since,.int .i64 x.seq],.bool (getI m id).isSome]∧L'=[]):=by
 refine Tri.en func259 H ntmps259 H fun w0=>J.co 2 H<|O.l (Lo.al Y66 H) H ?_
 rintro _ _ ⟨g1,rfl,rfl⟩
 refine O.oo 6 H<|O.p (Pu.someEq N163 H) H<|O.oo 9 H<|O.l (Lo.ca call314 (px_where p b V w m id) [] H H (.ro 0 H (.ro 2 H .nil))) H ?_
 rintro _ _ ⟨_,⟨rfl,rfl⟩,rfl⟩
 refine O.oc 8 H ?_
 refine by_bool ((getI m id).isSome) (fun h3=>?_) (fun h3=>?_)
 ·
  obtain ⟨k_,x_,hx_,hid_,hj_,hkl_⟩:=hk.found h3
  refine J.cc 4 H<|J.condF H (not_of_true h3)<|J.co 6 H<|O.q (Qt.lw 0 A52 H H H) H<|O.oo 1 H ?_
  obtain ⟨e4,he4⟩:=ex_at (l:=t) (i:=((getI m id).getD 0).toNat) (by omega)
  refine O.q (Qt.ix U52 Z66 H (Src.ro 1 H) he4 H (by omega)) H<|O.q (Qt.lea A66 Z66 (Src.ro 1 H) he4 0 H (by omega) H) H<|O.l0 (Lo.st 0 Z66 H H H H H H H) ?_
  rintro _ _ rfl
  refine O.oc 2 H ?_
  exact J.rn [_,_] [] H ⟨⟨_,_,0,0,_,H,(Cel.var 0 H),H,(Cut.agg [.int .i64 e4.id,.int .i64 e4.level,.int .i64 e4.from_,.int .i64 e4.deadline,.int .i64 e4.budget,.int .i64 e4.since,.int .i64 e4.seq] A66 Z66 H H)⟩,H,trivial⟩ H ⟨e4,(by rw [h3];rfl),H⟩
 refine J.cc 4 H<|J.condT H (not_of_false h3)<|J.co 2 H<|O.p (Pu.build [] [.int .i64 0,.int .i64 0,.int .i64 0,.int .i64 0,.int .i64 0,.int .i64 0,.int .i64 0] #[(0,1),(1,1),(2,1),(3,1),(4,1),(5,1),(6,1)] U66 Y66 (places66 N66) H (by kernel_rfl)) H<|O.l0 (Lo.st 0 Z66 H H H H H H H) ?_
 rintro _ _ rfl
 refine O.oc 2 H ?_
 exact J.rn [_,_] [] H ⟨⟨_,_,0,0,_,H,(Cel.var 0 H),H,(Cut.agg [.int .i64 0,.int .i64 0,.int .i64 0,.int .i64 0,.int .i64 0,.int .i64 0,.int .i64 0] A66 Z66 H H)⟩,H,trivial⟩ H ⟨Im.zero,(by rw [h3];rfl),H⟩
theorem pi_All (p b:Nat) (V:Value) (w:Int) (t:List Im) (ht:t.length≤100000):Tri prog 115 #[.pointer (some ⟨p,0,none⟩)] [var p [.map (some b),.int .i64 w,V] 294,rd V 7 (t.map Im.cells)] [] (fun v L'=>∃ o:List Im,o.Perm t∧L'=[row v 66 7 (o.map Im.cells)]):=by
 refine Tri.en func115 H ntmps115 H fun w0=>J.co 8 H<|O.l (Lo.ca call219 (pi_Len p b V w t) [] H H (.ro 0 H (.ro 1 H .nil))) H ?_
 rintro _ _ ⟨_,⟨rfl,rfl⟩,rfl⟩
 refine O.oc 2 H ?_
 refine J.cd H (fun p2=>?_) (fun p2=>?_)
 ·
  refine J.cc 4 H<|J.nr 66 7 (([]:List Im).map Im.cells) H ?_
  exact J.r1 [0] H H H ⟨_,(by first|assumption|(rw [List.length_eq_zero_iff.1 (by omega:t.length=0)])),H⟩
 refine J.co 6 H<|O.q (Qt.lw 0 A52 H H H) H<|O.l (Lo.ca call220 (rk_Sort V t (by omega)) [] H H (.ro 1 H .nil)) H ?_
 rintro v5 _ ⟨_,⟨m3,hq4,rfl⟩,rfl⟩
 refine O.oc 2 H ?_
 exact J.r1 [0] H H H ⟨_,(by first|assumption|(rw [List.length_eq_zero_iff.1 (by omega:t.length=0)])),H⟩
theorem pi_Clear (p b:Nat) (V:Value) (w:Int) (t:List Im) (m:List (Int×Int)):Tri prog 215 #[.pointer (some ⟨p,0,none⟩)] [] [var p [.map (some b),.int .i64 w,V] 294,row V 66 7 (t.map Im.cells),mi b (Value.int .i64) m] (fun v L'=>v=.tuple #[]∧L'=[var p [.map (some b),.int .i64 w,Value.slice none 0 0] 294,row (Value.slice none 0 0) 66 7 (([]:List Im).map Im.cells),mi b (Value.int .i64) ([]:List (Int×Int))]):=by
 refine Tri.en func215 H ntmps215 H fun w0=>J.co 3 H<|O.p (Pu.ptrNe N163 H) H<|O.oo 7 H<|O.l0 (Lo.st 0 sizeOf52 H H H H H H H) ?_
 rintro _ _ rfl
 refine O.oo 6 H<|O.q (Qt.lv 0 A178 H H H) H<|O.l0 (Lo.mapClear 2 H N178 H H) ?_
 rintro _ _ rfl
 refine O.nil<|J.nr 66 7 (([]:List Im).map Im.cells) H ?_
 exact J.dn [] [1,0,3] H trivial H ⟨H,H⟩
theorem pi_New (w:Int) (hw:0≤w) (hw1:w≤64):Tri prog 134 #[.int .i64 w] [] [] (fun v L'=>∃ p b,v=.tuple #[.pointer (some ⟨p,0,none⟩),.int .i64 0]∧L'=[var p [.map (some b),.int .i64 w,Value.slice none 0 0] 294,row (Value.slice none 0 0) 66 7 (([]:List Im).map Im.cells),mi b (Value.int .i64) ([]:List (Int×Int))]):=by
 refine Tri.en func134 H ntmps134 H fun w0=>J.co 11 H<|O.kf 6 H (decide_eq_false (by omega))<|O.oc 4 H<|J.condF H (decide_eq_false (by omega))<|J.co 3 H<|O.l (Lo.makeMapI (Value.int .i64)) H ?_
 rintro _ _ ⟨b1,rfl,rfl⟩
 refine O.p (Pu.build [(0,.map (some b1))] [.map (some b1)] #[(0,1)] runUnderlying292 zeroValue292 (places292 underlying292) H (by kernel_rfl)) H<|O.oo 1 H<|O.p (Pu.build [(0,.agg #[.map (some b1)]),(1,.int .i64 w)] [.map (some b1),.int .i64 w,Value.slice none 0 0] #[(0,1),(1,1),(2,1)] runUnderlying294 zeroValue294 (places294 underlying294) H (by kernel_rfl)) H<|O.l (Lo.bx H H) H ?_
 rintro _ _ ⟨g2,rfl,rfl⟩
 refine O.oc 3 H<|J.nr 66 7 (([]:List Im).map Im.cells) H ?_
 exact J.rn [_,_] [1,0,2] H ⟨H,H,trivial⟩ H ⟨g2,b1,H,H⟩
theorem pi_setI (p b:Nat) (V:Value) (w:Int) (t:List Im) (m:List (Int×Int)) (i:Int) (x:Im) (ht:t.length≤100000) (hi0:0≤i) (hi:i < t.length):Tri prog 316 #[.pointer (some ⟨p,0,none⟩),.int .i64 i,.agg #[.int .i64 x.id,.int .i64 x.level,.int .i64 x.from_,.int .i64 x.deadline,.int .i64 x.budget,.int .i64 x.since,.int .i64 x.seq]] [] [var p [.map (some b),.int .i64 w,V] 294,row V 66 7 (t.map Im.cells),mi b (Value.int .i64) m] (fun v L'=>v=.tuple #[]∧L'=[var p [.map (some b),.int .i64 w,V] 294,row V 66 7 ((t.set i.toNat x).map Im.cells),mi b (Value.int .i64) (putI m x.id i)]):=by
 obtain ⟨i,rfl⟩:∃ n:Nat,i=n:=⟨i.toNat,by omega⟩
 exact pi_set p b V w t m i x ht (by omega)
theorem pi_Push (p b:Nat) (V:Value) (w:Int) (t:List Im) (m:List (Int×Int)) (x:Im) (ht:t.length≤99999) (hk:Nd.AtOk t m) (hno:(getI m x.id).isSome=false) (hlw:t.length < w):Tri prog 263 #[.pointer (some ⟨p,0,none⟩),.agg #[.int .i64 x.id,.int .i64 x.level,.int .i64 x.from_,.int .i64 x.deadline,.int .i64 x.budget,.int .i64 x.since,.int .i64 x.seq]] [] [var p [.map (some b),.int .i64 w,V] 294,row V 66 7 (t.map Im.cells),mi b (Value.int .i64) m] (fun v L'=>∃ V' t' m',v=.int .i64 0∧t'.Perm (x :: t)∧Nd.AtOk t' m'∧L'=[var p [.map (some b),.int .i64 w,V'] 294,row V' 66 7 (t'.map Im.cells),mi b (Value.int .i64) m']):=by
 refine Tri.en func263 H ntmps263 H fun w0=>J.co 2 H<|O.l (Lo.bx H H) H ?_
 rintro _ _ ⟨g1,rfl,rfl⟩
 refine O.oo 7 H<|O.q (Qt.lv 0 A3 H H H) H<|O.l (Lo.ca call259 (pi_Get p b V w t m x.id (by omega) hk) [] H H (.own 1 H H (.of 2 row_rd H H (.own 3 H H .nil)))) H ?_
 rintro _ _ ⟨_,⟨x2,rfl,rfl⟩,rfl⟩
 refine O.oo 3 H<|O.l (Lo.al Y66 H) H ?_
 rintro _ _ ⟨g4,rfl,rfl⟩
 refine O.l0 (Lo.st 0 Z66 H H H H H H H) ?_
 rintro _ _ rfl
 refine O.oc 6 H<|J.condF H hno<|J.cc 3 H<|J.drawStill Tryz.mixed (by kernel_rfl)<|S.r 1 H<|S.p (Pu.someEq N163 H) H<|S.r 4 H<|S.gz (Qt.lv 2 A52 H H H) H H<|S.gz (Qt.lenM U52 H (Src.row 3 H)) H H<|S.r 3 H<|S.gz (Qt.lv 2 A3 H H H) H H<|S.r 2 H<|S.endJ<|J.condF H (decide_eq_false (by omega))<|J.cc 2 H<|J.dm [(0,false),(1,false),(2,false),(3,false),(4,false),(5,false),(6,true),(7,true),(8,false),(9,false),(10,true)] [1,2] Tryz.mixed (by kernel_rfl) H<|Mx.r 4 H<|Mx.q H (Qt.lv 1 A52 H H H) H<|Mx.q H (Qt.lva 0 A66 Z66 H H H) H<|Mx.l H (Lo.bm Im.cells [x] U52 Z66 Y66 H H H (by kernel_rfl) H H) H ?_
 rintro V5 _ rfl
 refine MxK.gp [2,3] [0,1] H H<|Mx.l H (Lo.am 4 N52 info66 H H H H H (Src.row 0 H) Im.one (by first|omega|(simp only [List.length_append,List.length_cons,List.length_nil,List.length_set];omega)) (by first|omega|(simp only [List.length_append,List.length_cons,List.length_nil,List.length_set];omega))) H ?_
 rintro V6 _ rfl
 refine MxK.al [2,3] H (by kernel_rfl)<|Mx.r 2 H ?_
 refine Mx.one H (fun _ h=>by cases h<;>rfl) (Src.row 4 H) (fun hV7=>?_)
 refine Mx.l0 H (Lo.so 3 sizeOf52 hV7 H H H H) ?_
 rintro _ _ rfl
 refine MxK.al [2,3] H (by kernel_rfl)<|Mx.nil<|J.seq<|J.drawTail 8 Tryz.mixed (by kernel_rfl)<|S.r 4 H<|S.q (Qt.lv 3 A52 H H H) H<|S.q (Qt.lenM U52 H (Src.row 4 H)) H<|S.p (Pu.sub' H H (by first|omega|(simp only [List.length_append,List.length_cons,List.length_nil,List.length_set];omega))) H<|S.q (Qt.lva 2 A66 Z66 H H H) H<|S.endO<|O.l (Lo.ca call316 (pi_setI p b V6 w (t++([x])) m (((t++([x])).length:Int)-1) x (by simp only [List.length_append,List.length_cons,List.length_nil];omega) (by simp only [List.length_append,List.length_cons,List.length_nil];omega) (by simp only [List.length_append,List.length_cons,List.length_nil];omega)) [3,4,5] H H .nil) H ?_
 rintro _ _ ⟨_,⟨rfl,rfl⟩,rfl⟩
 obtain ⟨hk,hp,hlt⟩:=hk.pushSet hno (i:=(((t++([x])).length:Int)-1)) rfl
 refine O.oo 7 H<|O.q (Qt.lv 0 A52 H H H) H<|O.q (Qt.lenM U52 H (Src.row 1 H)) H<|O.p (Pu.sub' H H (by omega)) H<|O.l (Lo.ca call317 (pi_up p b V6 w ((t++([x])).set (((t++([x])).length:Int)-1).toNat x) (putI m x.id (((t++([x])).length:Int)-1)) ((((t++([x])).set (((t++([x])).length:Int)-1).toNat x).length:Int)-1) (by first|omega|(simp;done)|(simp;omega)|(simp at hlt ⊢;omega)|(rw [hlt];simp)) (by first|omega|(simp;done)|(simp;omega)|(simp at hlt ⊢;omega)|(rw [hlt];simp)) (by first|omega|(simp;done)|(simp;omega)|(simp at hlt ⊢;omega)|(rw [hlt];simp)) hk) [0,1,2] H H .nil) H ?_
 rintro _ _ ⟨_,⟨rfl,t9,m10,hq11,hk12,rfl⟩,rfl⟩
 have hp:=hq11.trans hp
 have hk:=hk12
 refine O.oc 5 H ?_
 exact J.r1 [0,1,2] H H H ⟨_,_,_,H,hp,hk,H⟩
theorem pi_PushNo (p b:Nat) (V:Value) (w:Int) (t:List Im) (m:List (Int×Int)) (x:Im) (ht:t.length≤100000) (hk:Nd.AtOk t m) (hno:(getI m x.id).isSome=false) (hlw:w≤t.length):Tri prog 263 #[.pointer (some ⟨p,0,none⟩),.agg #[.int .i64 x.id,.int .i64 x.level,.int .i64 x.from_,.int .i64 x.deadline,.int .i64 x.budget,.int .i64 x.since,.int .i64 x.seq]] [var p [.map (some b),.int .i64 w,V] 294,rd V 7 (t.map Im.cells),mi b (Value.int .i64) m] [] (fun v L'=>v=.int .i64 6∧L'=[]):=by
 refine Tri.en func263 H ntmps263 H fun w0=>J.co 2 H<|O.l (Lo.bx H H) H ?_
 rintro _ _ ⟨g1,rfl,rfl⟩
 refine O.oo 7 H<|O.q (Qt.lv 0 A3 H H H) H<|O.l (Lo.ca call259 (pi_Get p b V w t m x.id (by omega) hk) [] H H (.ro 0 H (.ro 1 H (.ro 2 H .nil)))) H ?_
 rintro _ _ ⟨_,⟨x2,rfl,rfl⟩,rfl⟩
 refine O.oo 3 H<|O.l (Lo.al Y66 H) H ?_
 rintro _ _ ⟨g4,rfl,rfl⟩
 refine O.l0 (Lo.st 0 Z66 H H H H H H H) ?_
 rintro _ _ rfl
 refine O.oc 6 H<|J.condF H hno<|J.cc 3 H<|J.drawStill Tryz.mixed (by kernel_rfl)<|S.r 1 H<|S.p (Pu.someEq N163 H) H<|S.r 4 H<|S.gz (Qt.lw 0 A52 H H H) H H<|S.gz (Qt.lenM U52 H (Src.ro 1 H)) H H<|S.r 3 H<|S.gz (Qt.lw 0 A3 H H H) H H<|S.r 2 H<|S.endJ<|J.condT H (decide_eq_true (by omega))<|J.cc 4 H ?_
 exact J.r0 H H ⟨H,H⟩
theorem pi_Pop (p b:Nat) (V:Value) (w:Int) (t:List Im) (m:List (Int×Int)) (ht:t.length≤100000) (hk:Nd.AtOk t m) (h0:0 < t.length):Tri prog 266 #[.pointer (some ⟨p,0,none⟩)] [] [var p [.map (some b),.int .i64 w,V] 294,row V 66 7 (t.map Im.cells),mi b (Value.int .i64) m] (fun v L'=>∃ x V' t' m',v=.tuple #[.agg #[.int .i64 x.id,.int .i64 x.level,.int .i64 x.from_,.int .i64 x.deadline,.int .i64 x.budget,.int .i64 x.since,.int .i64 x.seq],.bool true]∧t[(0:Int).toNat]?=some x∧t.Perm (x :: t')∧Nd.AtOk t' m'∧L'=[var p [.map (some b),.int .i64 w,V'] 294,row V' 66 7 (t'.map Im.cells),mi b (Value.int .i64) m']):=by
 refine Tri.en func266 H ntmps266 H fun w0=>J.co 2 H<|O.l (Lo.al Y66 H) H ?_
 rintro _ _ ⟨g1,rfl,rfl⟩
 refine O.oo 6 H<|O.l (Lo.ca call219 (pi_Len p b V w t) [] H H (.own 1 H H (.of 2 row_rd H H .nil))) H ?_
 rintro _ _ ⟨_,⟨rfl,rfl⟩,rfl⟩
 refine O.oc 2 H<|J.condF H (decide_eq_false (by omega))<|J.co 4 H<|O.l (Lo.ca call321 (pi_out p b V w t m 0 (by omega) (by omega) (by omega) hk) [1,2,3] H H .nil) H ?_
 rintro _ _ ⟨_,⟨x3,V4,t5,m6,rfl,hx7,hq8,hk9,rfl⟩,rfl⟩
 have hx:=hx7
 have hp:=hq8
 have hk:=hk9
 refine O.oo 2 H<|O.l0 (Lo.st 3 Z66 H H H H H H H) ?_
 rintro _ _ rfl
 refine O.oc 2 H ?_
 exact J.rn [_,_] [0,1,2] H ⟨⟨_,_,0,0,_,H,(Cel.var 3 H),H,(Cut.agg [.int .i64 x3.id,.int .i64 x3.level,.int .i64 x3.from_,.int .i64 x3.deadline,.int .i64 x3.budget,.int .i64 x3.since,.int .i64 x3.seq] A66 Z66 H H)⟩,H,trivial⟩ H ⟨_,_,_,_,H,hx,hp,hk,H⟩
theorem pi_PopNo (p b:Nat) (V:Value) (w:Int) (t:List Im) (m:List (Int×Int)) (h0:t.length=0):Tri prog 266 #[.pointer (some ⟨p,0,none⟩)] [var p [.map (some b),.int .i64 w,V] 294,rd V 7 (t.map Im.cells)] [] (fun v L'=>v=.tuple #[.agg #[.int .i64 Im.zero.id,.int .i64 Im.zero.level,.int .i64 Im.zero.from_,.int .i64 Im.zero.deadline,.int .i64 Im.zero.budget,.int .i64 Im.zero.since,.int .i64 Im.zero.seq],.bool false]∧L'=[]):=by
 refine Tri.en func266 H ntmps266 H fun w0=>J.co 2 H<|O.l (Lo.al Y66 H) H ?_
 rintro _ _ ⟨g1,rfl,rfl⟩
 refine O.oo 6 H<|O.l (Lo.ca call219 (pi_Len p b V w t) [] H H (.ro 0 H (.ro 1 H .nil))) H ?_
 rintro _ _ ⟨_,⟨rfl,rfl⟩,rfl⟩
 refine O.oc 2 H<|J.condT H (decide_eq_true (by omega))<|J.co 2 H<|O.p (Pu.build [] [.int .i64 0,.int .i64 0,.int .i64 0,.int .i64 0,.int .i64 0,.int .i64 0,.int .i64 0] #[(0,1),(1,1),(2,1),(3,1),(4,1),(5,1),(6,1)] U66 Y66 (places66 N66) H (by kernel_rfl)) H<|O.l0 (Lo.st 0 Z66 H H H H H H H) ?_
 rintro _ _ rfl
 refine O.oc 2 H ?_
 exact J.rn [_,_] [] H ⟨⟨_,_,0,0,_,H,(Cel.var 0 H),H,(Cut.agg [.int .i64 0,.int .i64 0,.int .i64 0,.int .i64 0,.int .i64 0,.int .i64 0,.int .i64 0] A66 Z66 H H)⟩,H,trivial⟩ H ⟨H,H⟩
theorem pi_Take (p b:Nat) (V:Value) (w:Int) (t:List Im) (m:List (Int×Int)) (id:Int) (ht:t.length≤100000) (hk:Nd.AtOk t m) (hs:(getI m id).isSome=true):Tri prog 265 #[.pointer (some ⟨p,0,none⟩),.int .i64 id] [] [var p [.map (some b),.int .i64 w,V] 294,row V 66 7 (t.map Im.cells),mi b (Value.int .i64) m] (fun v L'=>∃ x V' t' m',v=.tuple #[.agg #[.int .i64 x.id,.int .i64 x.level,.int .i64 x.from_,.int .i64 x.deadline,.int .i64 x.budget,.int .i64 x.since,.int .i64 x.seq],.bool true]∧x.id=id∧t.Perm (x :: t')∧Nd.AtOk t' m'∧L'=[var p [.map (some b),.int .i64 w,V'] 294,row V' 66 7 (t'.map Im.cells),mi b (Value.int .i64) m']):=by
 obtain ⟨k_,x_,hx_,hid_,hj_,hkl_⟩:=hk.found hs
 refine Tri.en func265 H ntmps265 H fun w0=>J.co 2 H<|O.l (Lo.al Y66 H) H ?_
 rintro _ _ ⟨g1,rfl,rfl⟩
 refine O.oo 6 H<|O.p (Pu.someEq N163 H) H<|O.oo 9 H<|O.l (Lo.ca call314 (px_where p b V w m id) [] H H (.own 1 H H (.own 3 H H .nil))) H ?_
 rintro _ _ ⟨_,⟨rfl,rfl⟩,rfl⟩
 refine O.oc 12 H<|J.condF H (not_of_true hs)<|J.co 5 H<|O.l (Lo.ca call321 (pi_out p b V w t m ((getI m id).getD 0) (by omega) (by omega) (by omega) hk) [1,2,3] H H .nil) H ?_
 rintro _ _ ⟨_,⟨x3,V4,t5,m6,rfl,hx7,hq8,hk9,rfl⟩,rfl⟩
 have hx:=hx7
 have hp:=hq8
 have hk:=hk9
 refine O.oo 2 H<|O.l0 (Lo.st 3 Z66 H H H H H H H) ?_
 rintro _ _ rfl
 refine O.oc 2 H ?_
 exact J.rn [_,_] [0,1,2] H ⟨⟨_,_,0,0,_,H,(Cel.var 3 H),H,(Cut.agg [.int .i64 x3.id,.int .i64 x3.level,.int .i64 x3.from_,.int .i64 x3.deadline,.int .i64 x3.budget,.int .i64 x3.since,.int .i64 x3.seq] A66 Z66 H H)⟩,H,trivial⟩ H ⟨_,_,_,_,H,(by rw [show ((getI m id).getD 0).toNat=k_ from by omega,hx_] at hx;cases hx;exact hid_),hp,hk,H⟩
theorem rk_best (lv:Value) (l:List Im) (hl:l.length≤100000):Tri prog 318 #[lv,.func (.func 319) #[] #[]] [rd lv 7 (l.map Im.cells)] [] (fun v L'=>∃ (k:Nat) (b:Bool),v=.tuple #[.int .i64 (k:Int),.bool b]∧(l≠[]→k < l.length)∧Nd.Top l l.length k∧L'=[]):=by
 refine Tri.en func318 H ntmps318 H fun w0=>J.co 13 H<|O.q (Qt.lenM U52 H (Src.ro 0 H)) H<|O.oc 3 H ?_
 refine J.lo (X:=Nat×Nat) (fun (i,k)=>i≤l.length∧(k < i∨i=0∧k=0)∧Nd.Top l i k) (fun (i,k)=>[(6,.int .i64 (k:Int)),(11,.int .i64 (i:Int))]) (fun (i,k)=>[]) (fun (i,k)=>l.length-i) ⟨0,0⟩ [0,1,4,5,9,10] [] [] ⟨by omega,by omega,Nd.Top.zero⟩ ⟨(eqi (by omega)),(eqi (by omega)),trivial⟩ H H ?_
 rintro ⟨i,k⟩ ⟨hi,hki,ht⟩
 refine J.cc 5 H ?_
 refine J.cd H (fun p1=>?_) (fun p1=>?_)
 ·
  refine J.co 6 H ?_
  obtain ⟨e2,he2⟩:=ex_at (l:=l) (i:=i) (by omega)
  refine O.q (Qt.ix U52 Z66 H (Src.ro 0 H) he2 H (by rfl)) H<|O.q (Qt.lea A66 Z66 (Src.ro 0 H) he2 0 H (by omega) H) H<|O.l (Lo.al Y66 H) H ?_
  rintro _ _ ⟨g3,rfl,rfl⟩
  refine O.oo 1 H<|O.l0 (Lo.st 0 Z66 H H H H H H H) ?_
  rintro _ _ rfl
  refine O.oc 2 H<|J.drawTail 6 Tryz.mixed (by kernel_rfl)<|S.r 1 H<|S.q (Qt.lva 0 A66 Z66 H H H) H<|S.r 2 H ?_
  obtain ⟨e4,he4⟩:=ex_at (l:=l) (i:=k) (by omega)
  refine S.q (Qt.ix U52 Z66 H (Src.ro 0 H) he4 H (by rfl)) H<|S.q (Qt.lea A66 Z66 (Src.ro 0 H) he4 0 H (by omega) H) H<|S.endO<|O.l (Lo.cv call319 H H (rk_Victim1 e2 e4) [] H .nil) H ?_
  rintro _ _ ⟨_,⟨rfl,rfl⟩,rfl⟩
  refine O.nil ?_
  refine J.cond H (fun h6=>?_) (fun h6=>?_)
  ·
   refine J.co 6 H<|O.p (Pu.add' H H (by omega)) H<|O.oc 2 H ?_
   exact J.lq ⟨i+1,i⟩ [0,1,4,5,9,10] [] [] ⟨by omega,by omega,ht.take (by assumption) (by assumption) h6⟩ (by dsimp only;omega) ⟨H,(eqi (by omega)),trivial⟩ H H
  refine J.co 3 H<|O.p (Pu.add' H H (by omega)) H<|O.oc 2 H ?_
  exact J.lq ⟨i+1,k⟩ [0,1,4,5,9,10] [] [] ⟨by omega,by omega,ht.keep (by assumption) (by assumption) h6⟩ (by dsimp only;omega) ⟨H,(eqi (by omega)),trivial⟩ H H
 refine J.co 5 H<|O.q (Qt.lenM U52 H (Src.ro 0 H)) H<|O.oc 4 H ?_
 exact J.rn [_,_] [] H ⟨H,H,trivial⟩ H ⟨k,_,H,(fun h_=>by have h2_:=List.length_pos_iff.2 h_;omega),(show i=l.length from by omega) ▸ ht,H⟩
theorem rk_Victim (lv:Value) (l:List Im) (hl:l.length≤100000):Tri prog 264 #[lv] [rd lv 7 (l.map Im.cells)] [] (fun v L'=>∃ (k:Nat) (b:Bool),v=.tuple #[.int .i64 (k:Int),.bool b]∧(l≠[]→k < l.length)∧Nd.Top l l.length k∧L'=[]):=by
 refine Tri.en func264 H ntmps264 H fun w0=>J.co 8 H<|O.l (Lo.ca call318 (rk_best lv l (by first|omega|(simp only [List.length_append,List.length_cons,List.length_nil];omega))) [] H H (.ro 0 H .nil)) H ?_
 rintro _ _ ⟨_,⟨k1,b2,rfl,hb3,ht4,rfl⟩,rfl⟩
 have hvl:=hb3
 have hvt:=ht4
 refine O.oc 5 H ?_
 exact J.rn [_,_] [] H ⟨H,H,trivial⟩ H ⟨_,_,H,hvl,hvt,H⟩
theorem qu_items (q p:Nat) (w:Int):Tri prog 114 #[.pointer (some ⟨q,0,none⟩)] [var q [.pointer (some ⟨p,0,none⟩),.int .i64 w] 206] [] (fun v L'=>v=.pointer (some ⟨p,0,none⟩)∧L'=[]):=by
 refine Tri.en func114 H ntmps114 H fun w0=>J.co 8 H<|O.p (Pu.someEq underlying84 H) H<|O.oo 8 H<|O.q (Qt.lw 0 isAgg163 H H H) H<|O.oc 2 H ?_
 exact J.r0 H H ⟨H,H⟩
theorem qu_Add (q:Nat) (p b:Nat) (V:Value) (w:Int) (t:List Im) (m:List (Int×Int)) (x:Im) (ht:t.length≤99999) (hk:Nd.AtOk t m) (hno:(getI m x.id).isSome=false) (hlw:t.length < w):Tri prog 182 #[.pointer (some ⟨q,0,none⟩),.agg #[.int .i64 x.id,.int .i64 x.level,.int .i64 x.from_,.int .i64 x.deadline,.int .i64 x.budget,.int .i64 x.since,.int .i64 x.seq]] [] [var q [.pointer (some ⟨p,0,none⟩),.int .i64 w] 206,var p [.map (some b),.int .i64 w,V] 294,row V 66 7 (t.map Im.cells),mi b (Value.int .i64) m] (fun v L'=>∃ V' t' m',v=.tuple #[.agg #[.int .i64 Im.zero.id,.int .i64 Im.zero.level,.int .i64 Im.zero.from_,.int .i64 Im.zero.deadline,.int .i64 Im.zero.budget,.int .i64 Im.zero.since,.int .i64 Im.zero.seq],.bool false,.int .i64 0]∧t'.Perm (x :: t)∧Nd.AtOk t' m'∧L'=[var q [.pointer (some ⟨p,0,none⟩),.int .i64 w] 206,var p [.map (some b),.int .i64 w,V'] 294,row V' 66 7 (t'.map Im.cells),mi b (Value.int .i64) m']):=by
 refine Tri.en func182 H ntmps182 H fun w0=>J.co 2 H<|O.l (Lo.bx H H) H ?_
 rintro _ _ ⟨g1,rfl,rfl⟩
 refine O.l (Lo.al Y66 H) H ?_
 rintro _ _ ⟨g2,rfl,rfl⟩
 refine O.oo 6 H<|O.l (Lo.ca C114 (qu_items q p w) [] H H (.own 2 H H .nil)) H ?_
 rintro _ _ ⟨_,⟨rfl,rfl⟩,rfl⟩
 refine O.oo 6 H<|O.q (Qt.lva 1 A66 Z66 H H H) H<|O.l (Lo.ca call263 (pi_Push p b V w t m x (by omega) hk hno (by omega)) [3,4,5] H H .nil) H ?_
 rintro _ _ ⟨_,⟨V4,t5,m6,rfl,hq7,hk8,rfl⟩,rfl⟩
 have hp:=hq7
 have hk:=hk8
 refine O.oc 7 H<|J.condT H (by decide)<|J.co 2 H<|O.p (Pu.build [] [.int .i64 0,.int .i64 0,.int .i64 0,.int .i64 0,.int .i64 0,.int .i64 0,.int .i64 0] #[(0,1),(1,1),(2,1),(3,1),(4,1),(5,1),(6,1)] U66 Y66 (places66 N66) H (by kernel_rfl)) H<|O.l0 (Lo.st 3 Z66 H H H H H H H) ?_
 rintro _ _ rfl
 refine O.oc 3 H ?_
 exact J.rn [_,_,_] [5,0,1,2] H ⟨⟨_,_,0,0,_,H,(Cel.var 3 H),H,(Cut.agg [.int .i64 0,.int .i64 0,.int .i64 0,.int .i64 0,.int .i64 0,.int .i64 0,.int .i64 0] A66 Z66 H H)⟩,H,H,trivial⟩ H ⟨_,_,_,H,hp,hk,H⟩
theorem qu_AddFull (q:Nat) (p b:Nat) (V:Value) (w:Int) (t:List Im) (m:List (Int×Int)) (x:Im) (ht:t.length≤99999) (hk:Nd.AtOk t m) (hno:(getI m x.id).isSome=false) (hlw:w=t.length) (hw0:0 < w):Tri prog 182 #[.pointer (some ⟨q,0,none⟩),.agg #[.int .i64 x.id,.int .i64 x.level,.int .i64 x.from_,.int .i64 x.deadline,.int .i64 x.budget,.int .i64 x.since,.int .i64 x.seq]] [] [var q [.pointer (some ⟨p,0,none⟩),.int .i64 w] 206,var p [.map (some b),.int .i64 w,V] 294,row V 66 7 (t.map Im.cells),mi b (Value.int .i64) m] (fun v L'=>∃ V' t' m' y,v=.tuple #[.agg #[.int .i64 y.id,.int .i64 y.level,.int .i64 y.from_,.int .i64 y.deadline,.int .i64 y.budget,.int .i64 y.since,.int .i64 y.seq],.bool true,.int .i64 0]∧(y :: t').Perm (x :: t)∧(∀ z∈t',z.level≤y.level)∧Nd.AtOk t' m'∧L'=[var q [.pointer (some ⟨p,0,none⟩),.int .i64 w] 206,var p [.map (some b),.int .i64 w,V'] 294,row V' 66 7 (t'.map Im.cells),mi b (Value.int .i64) m']):=by
 refine Tri.en func182 H ntmps182 H fun w0=>J.co 2 H<|O.l (Lo.bx H H) H ?_
 rintro _ _ ⟨g1,rfl,rfl⟩
 refine O.l (Lo.al Y66 H) H ?_
 rintro _ _ ⟨g2,rfl,rfl⟩
 refine O.oo 6 H<|O.l (Lo.ca C114 (qu_items q p w) [] H H (.own 2 H H .nil)) H ?_
 rintro _ _ ⟨_,⟨rfl,rfl⟩,rfl⟩
 refine O.oo 6 H<|O.q (Qt.lva 1 A66 Z66 H H H) H<|O.l (Lo.ca call263 (pi_PushNo p b V w t m x (by omega) hk hno (by omega)) [] H H (.own 3 H H (.of 4 row_rd H H (.own 5 H H .nil)))) H ?_
 rintro _ _ ⟨_,⟨rfl,rfl⟩,rfl⟩
 refine O.oc 7 H<|J.condF H (by decide)<|J.cc 5 H<|J.condF H (by decide)<|J.cc 3 H<|J.draw Tryz.mixed #[false,false,false,false,false,false] H<|D.take (listed':=#[true,false,false,false,false,false]) 0 H (by kernel_rfl) (by kernel_rfl) (by kernel_rfl) H (Pu.move H) H ?_
 refine D.all 1 [2] (by kernel_rfl) ⟨?_,?_,trivial⟩
 ·
  refine W.l (listed':=#[true,true,false,false,false,false]) H H (Lo.ca call115 (pi_All p b V w t (by omega)) [] H H (.own 3 H H (.of 4 row_rd H H .nil))) H ?_
  rintro v7 _ ⟨_,⟨o5,hq6,rfl⟩,rfl⟩
  have hall:=hq6
  have hol:=hall.length_eq
  refine D.all 2 [] (by kernel_rfl) ⟨?_,trivial⟩
  refine W.q (listed':=#[true,true,true,false,false,false]) H H (Qt.lva 2 A66 Z66 H H H) H ?_
  refine D.all 3 [] (by kernel_rfl) ⟨?_,trivial⟩
  refine W.l (listed':=#[true,true,true,true,false,false]) H H (Lo.bm Im.cells [x] U52 Z66 Y66 H H H (by kernel_rfl) H H) H ?_
  rintro V8 _ rfl
  refine D.all 4 [] (by kernel_rfl) ⟨?_,trivial⟩
  refine W.l (listed':=#[true,true,true,true,true,false]) H H (Lo.am 1 N52 info66 H H H H H (Src.row 0 H) Im.one (by first|omega|(simp only [List.length_append,List.length_cons,List.length_nil];omega)) (by first|omega|(simp only [List.length_append,List.length_cons,List.length_nil];omega))) H ?_
  rintro V9 _ rfl
  refine D.take (listed':=#[true,true,true,true,true,true]) 5 H (by kernel_rfl) (by kernel_rfl) (by kernel_rfl) H (Pu.assign H) H<|D.done (by kernel_rfl)<|J.co 3 H<|O.l (Lo.ca call264 (rk_Victim V9 (o5++([x])) (by first|omega|(simp only [List.length_append,List.length_cons,List.length_nil];omega))) [] H H (.of 1 row_rd H H .nil)) H ?_
  rintro _ _ ⟨_,⟨k10,b11,rfl,hb12,ht13,rfl⟩,rfl⟩
  have hvl:=hb12
  have hvt:=ht13
  refine O.oc 8 H ?_
  have hcl:(o5++([x])).length=t.length+1:=by rw [List.length_append,hol];rfl
  have hvl2:=hvl (by simp)
  refine J.co 3 H<|O.q (Qt.lenM U52 H (Src.row 1 H)) H<|O.p (Pu.sub' H H (by omega)) H<|O.oc 2 H ?_
  refine J.cd H (fun p15=>?_) (fun p15=>?_)
  ·
   refine J.co 2 H<|O.q (Qt.lva 3 A66 Z66 H H H) H<|O.l0 (Lo.st 2 Z66 H H H H H H H) ?_
   rintro _ _ rfl
   refine O.oc 3 H ?_
   exact J.rn [_,_,_] [4,5,6,7] H ⟨⟨_,_,0,0,_,H,(Cel.var 2 H),H,(Cut.agg [.int .i64 x.id,.int .i64 x.level,.int .i64 x.from_,.int .i64 x.deadline,.int .i64 x.budget,.int .i64 x.since,.int .i64 x.seq] A66 Z66 H H)⟩,H,H,trivial⟩ H ⟨_,_,_,x,H,List.Perm.refl _,Nd.add_last hall (List.getElem?_eq_getElem (by simp only [List.length_append,List.length_cons,List.length_nil];omega)) (by omega) hvt,hk,H⟩
  refine J.co 6 H ?_
  obtain ⟨e16,he16⟩:=ex_at (l:=o5++([x])) (i:=k10) (by omega)
  refine O.q (Qt.ix U52 Z66 H (Src.row 1 H) he16 H (by rfl)) H<|O.oo 1 H<|O.q (Qt.le A3 (Src.row 1 H) he16 0 H (by omega) H) H ?_
  refine O.l (Lo.ca call265 (pi_Take p b V w t m e16.id (by omega) hk (hk.has (hall.mem_iff.1 (List.mem_of_getElem? (by have h_:=he16;rwa [List.getElem?_append_left (by omega)] at h_))))) [5,6,7] H H .nil) H ?_
  rintro _ _ ⟨_,⟨z17,V18,t19,m20,rfl,hx21,hq22,hk23,rfl⟩,rfl⟩
  have hk0:=hk
  have hz:=hx21
  have hp1:=hq22
  have hk:=hk23
  refine O.oo 4 H<|O.q (Qt.lva 6 A66 Z66 H H H) H<|O.l (Lo.ca call263 (pi_Push p b V18 w t19 m20 x (by have h_:=hp1.length_eq;simp only [List.length_cons] at h_;omega) hk (Nd.no_of hk0 hk hno hp1) (by have h_:=hp1.length_eq;simp only [List.length_cons] at h_;omega)) [0,1,2] H H .nil) H ?_
  rintro _ _ ⟨_,⟨V25,t26,m27,rfl,hq28,hk29,rfl⟩,rfl⟩
  have hp:=hq28
  have hk:=hk29
  refine O.oo 5 H<|O.q (Qt.ix U52 Z66 H (Src.row 4 H) he16 H (by rfl)) H<|O.q (Qt.lea A66 Z66 (Src.row 4 H) he16 0 H (by omega) H) H<|O.l0 (Lo.st 5 Z66 H H H H H H H) ?_
  rintro _ _ rfl
  refine O.oc 3 H ?_
  exact J.rn [_,_,_] [7,0,1,2] H ⟨⟨_,_,0,0,_,H,(Cel.var 5 H),H,(Cut.agg [.int .i64 e16.id,.int .i64 e16.level,.int .i64 e16.from_,.int .i64 e16.deadline,.int .i64 e16.budget,.int .i64 e16.since,.int .i64 e16.seq] A66 Z66 H H)⟩,H,H,trivial⟩ H ⟨_,_,_,e16,H,(Nd.add_gone hk0 hall he16 (by omega) hz hp1 hp hvt).1,(Nd.add_gone hk0 hall he16 (by omega) hz hp1 hp hvt).2,hk,H⟩
 refine W.q (listed':=#[true,false,true,false,false,false]) H H (Qt.lva 1 A66 Z66 H H H) H ?_
 refine D.all 1 [3] (by kernel_rfl) ⟨?_,?_,trivial⟩
 ·
  refine W.l (listed':=#[true,true,true,false,false,false]) H H (Lo.ca call115 (pi_All p b V w t (by omega)) [] H H (.own 3 H H (.of 4 row_rd H H .nil))) H ?_
  rintro v33 _ ⟨_,⟨o31,hq32,rfl⟩,rfl⟩
  have hall:=hq32
  have hol:=hall.length_eq
  refine D.all 3 [] (by kernel_rfl) ⟨?_,trivial⟩
  refine W.l (listed':=#[true,true,true,true,false,false]) H H (Lo.bm Im.cells [x] U52 Z66 Y66 H H H (by kernel_rfl) H H) H ?_
  rintro V34 _ rfl
  refine D.all 4 [] (by kernel_rfl) ⟨?_,trivial⟩
  refine W.l (listed':=#[true,true,true,true,true,false]) H H (Lo.am 1 N52 info66 H H H H H (Src.row 0 H) Im.one (by first|omega|(simp only [List.length_append,List.length_cons,List.length_nil];omega)) (by first|omega|(simp only [List.length_append,List.length_cons,List.length_nil];omega))) H ?_
  rintro V35 _ rfl
  refine D.take (listed':=#[true,true,true,true,true,true]) 5 H (by kernel_rfl) (by kernel_rfl) (by kernel_rfl) H (Pu.assign H) H<|D.done (by kernel_rfl)<|J.co 3 H<|O.l (Lo.ca call264 (rk_Victim V35 (o31++([x])) (by first|omega|(simp only [List.length_append,List.length_cons,List.length_nil];omega))) [] H H (.of 1 row_rd H H .nil)) H ?_
  rintro _ _ ⟨_,⟨k36,b37,rfl,hb38,ht39,rfl⟩,rfl⟩
  have hvl:=hb38
  have hvt:=ht39
  refine O.oc 8 H ?_
  have hcl:(o31++([x])).length=t.length+1:=by rw [List.length_append,hol];rfl
  have hvl2:=hvl (by simp)
  refine J.co 3 H<|O.q (Qt.lenM U52 H (Src.row 1 H)) H<|O.p (Pu.sub' H H (by omega)) H<|O.oc 2 H ?_
  refine J.cd H (fun p41=>?_) (fun p41=>?_)
  ·
   refine J.co 2 H<|O.q (Qt.lva 3 A66 Z66 H H H) H<|O.l0 (Lo.st 2 Z66 H H H H H H H) ?_
   rintro _ _ rfl
   refine O.oc 3 H ?_
   exact J.rn [_,_,_] [4,5,6,7] H ⟨⟨_,_,0,0,_,H,(Cel.var 2 H),H,(Cut.agg [.int .i64 x.id,.int .i64 x.level,.int .i64 x.from_,.int .i64 x.deadline,.int .i64 x.budget,.int .i64 x.since,.int .i64 x.seq] A66 Z66 H H)⟩,H,H,trivial⟩ H ⟨_,_,_,x,H,List.Perm.refl _,Nd.add_last hall (List.getElem?_eq_getElem (by simp only [List.length_append,List.length_cons,List.length_nil];omega)) (by omega) hvt,hk,H⟩
  refine J.co 6 H ?_
  obtain ⟨e42,he42⟩:=ex_at (l:=o31++([x])) (i:=k36) (by omega)
  refine O.q (Qt.ix U52 Z66 H (Src.row 1 H) he42 H (by rfl)) H<|O.oo 1 H<|O.q (Qt.le A3 (Src.row 1 H) he42 0 H (by omega) H) H ?_
  refine O.l (Lo.ca call265 (pi_Take p b V w t m e42.id (by omega) hk (hk.has (hall.mem_iff.1 (List.mem_of_getElem? (by have h_:=he42;rwa [List.getElem?_append_left (by omega)] at h_))))) [5,6,7] H H .nil) H ?_
  rintro _ _ ⟨_,⟨z43,V44,t45,m46,rfl,hx47,hq48,hk49,rfl⟩,rfl⟩
  have hk0:=hk
  have hz:=hx47
  have hp1:=hq48
  have hk:=hk49
  refine O.oo 4 H<|O.q (Qt.lva 6 A66 Z66 H H H) H<|O.l (Lo.ca call263 (pi_Push p b V44 w t45 m46 x (by have h_:=hp1.length_eq;simp only [List.length_cons] at h_;omega) hk (Nd.no_of hk0 hk hno hp1) (by have h_:=hp1.length_eq;simp only [List.length_cons] at h_;omega)) [0,1,2] H H .nil) H ?_
  rintro _ _ ⟨_,⟨V51,t52,m53,rfl,hq54,hk55,rfl⟩,rfl⟩
  have hp:=hq54
  have hk:=hk55
  refine O.oo 5 H<|O.q (Qt.ix U52 Z66 H (Src.row 4 H) he42 H (by rfl)) H<|O.q (Qt.lea A66 Z66 (Src.row 4 H) he42 0 H (by omega) H) H<|O.l0 (Lo.st 5 Z66 H H H H H H H) ?_
  rintro _ _ rfl
  refine O.oc 3 H ?_
  exact J.rn [_,_,_] [7,0,1,2] H ⟨⟨_,_,0,0,_,H,(Cel.var 5 H),H,(Cut.agg [.int .i64 e42.id,.int .i64 e42.level,.int .i64 e42.from_,.int .i64 e42.deadline,.int .i64 e42.budget,.int .i64 e42.since,.int .i64 e42.seq] A66 Z66 H H)⟩,H,H,trivial⟩ H ⟨_,_,_,e42,H,(Nd.add_gone hk0 hall he42 (by omega) hz hp1 hp hvt).1,(Nd.add_gone hk0 hall he42 (by omega) hz hp1 hp hvt).2,hk,H⟩
 refine W.l (listed':=#[true,false,true,true,false,false]) H H (Lo.bm Im.cells [x] U52 Z66 Y66 H H H (by kernel_rfl) H H) H ?_
 rintro V57 _ rfl
 refine D.all 1 [] (by kernel_rfl) ⟨?_,trivial⟩
 refine W.l (listed':=#[true,true,true,true,false,false]) H H (Lo.ca call115 (pi_All p b V w t (by omega)) [] H H (.own 4 H H (.of 5 row_rd H H .nil))) H ?_
 rintro v60 _ ⟨_,⟨o58,hq59,rfl⟩,rfl⟩
 have hall:=hq59
 have hol:=hall.length_eq
 refine D.all 4 [] (by kernel_rfl) ⟨?_,trivial⟩
 refine W.l (listed':=#[true,true,true,true,true,false]) H H (Lo.am 0 N52 info66 H H H H H (Src.row 1 H) Im.one (by first|omega|(simp only [List.length_append,List.length_cons,List.length_nil];omega)) (by first|omega|(simp only [List.length_append,List.length_cons,List.length_nil];omega))) H ?_
 rintro V61 _ rfl
 refine D.take (listed':=#[true,true,true,true,true,true]) 5 H (by kernel_rfl) (by kernel_rfl) (by kernel_rfl) H (Pu.assign H) H<|D.done (by kernel_rfl)<|J.co 3 H<|O.l (Lo.ca call264 (rk_Victim V61 (o58++([x])) (by first|omega|(simp only [List.length_append,List.length_cons,List.length_nil];omega))) [] H H (.of 0 row_rd H H .nil)) H ?_
 rintro _ _ ⟨_,⟨k62,b63,rfl,hb64,ht65,rfl⟩,rfl⟩
 have hvl:=hb64
 have hvt:=ht65
 refine O.oc 8 H ?_
 have hcl:(o58++([x])).length=t.length+1:=by rw [List.length_append,hol];rfl
 have hvl2:=hvl (by simp)
 refine J.co 3 H<|O.q (Qt.lenM U52 H (Src.row 0 H)) H<|O.p (Pu.sub' H H (by omega)) H<|O.oc 2 H ?_
 refine J.cd H (fun p67=>?_) (fun p67=>?_)
 ·
  refine J.co 2 H<|O.q (Qt.lva 3 A66 Z66 H H H) H<|O.l0 (Lo.st 2 Z66 H H H H H H H) ?_
  rintro _ _ rfl
  refine O.oc 3 H ?_
  exact J.rn [_,_,_] [4,5,6,7] H ⟨⟨_,_,0,0,_,H,(Cel.var 2 H),H,(Cut.agg [.int .i64 x.id,.int .i64 x.level,.int .i64 x.from_,.int .i64 x.deadline,.int .i64 x.budget,.int .i64 x.since,.int .i64 x.seq] A66 Z66 H H)⟩,H,H,trivial⟩ H ⟨_,_,_,x,H,List.Perm.refl _,Nd.add_last hall (List.getElem?_eq_getElem (by simp only [List.length_append,List.length_cons,List.length_nil];omega)) (by omega) hvt,hk,H⟩
 refine J.co 6 H ?_
 obtain ⟨e68,he68⟩:=ex_at (l:=o58++([x])) (i:=k62) (by omega)
 refine O.q (Qt.ix U52 Z66 H (Src.row 0 H) he68 H (by rfl)) H<|O.oo 1 H<|O.q (Qt.le A3 (Src.row 0 H) he68 0 H (by omega) H) H ?_
 refine O.l (Lo.ca call265 (pi_Take p b V w t m e68.id (by omega) hk (hk.has (hall.mem_iff.1 (List.mem_of_getElem? (by have h_:=he68;rwa [List.getElem?_append_left (by omega)] at h_))))) [5,6,7] H H .nil) H ?_
 rintro _ _ ⟨_,⟨z69,V70,t71,m72,rfl,hx73,hq74,hk75,rfl⟩,rfl⟩
 have hk0:=hk
 have hz:=hx73
 have hp1:=hq74
 have hk:=hk75
 refine O.oo 4 H<|O.q (Qt.lva 6 A66 Z66 H H H) H<|O.l (Lo.ca call263 (pi_Push p b V70 w t71 m72 x (by have h_:=hp1.length_eq;simp only [List.length_cons] at h_;omega) hk (Nd.no_of hk0 hk hno hp1) (by have h_:=hp1.length_eq;simp only [List.length_cons] at h_;omega)) [0,1,2] H H .nil) H ?_
 rintro _ _ ⟨_,⟨V77,t78,m79,rfl,hq80,hk81,rfl⟩,rfl⟩
 have hp:=hq80
 have hk:=hk81
 refine O.oo 5 H<|O.q (Qt.ix U52 Z66 H (Src.row 3 H) he68 H (by rfl)) H<|O.q (Qt.lea A66 Z66 (Src.row 3 H) he68 0 H (by omega) H) H<|O.l0 (Lo.st 5 Z66 H H H H H H H) ?_
 rintro _ _ rfl
 refine O.oc 3 H ?_
 exact J.rn [_,_,_] [7,0,1,2] H ⟨⟨_,_,0,0,_,H,(Cel.var 5 H),H,(Cut.agg [.int .i64 e68.id,.int .i64 e68.level,.int .i64 e68.from_,.int .i64 e68.deadline,.int .i64 e68.budget,.int .i64 e68.since,.int .i64 e68.seq] A66 Z66 H H)⟩,H,H,trivial⟩ H ⟨_,_,_,e68,H,(Nd.add_gone hk0 hall he68 (by omega) hz hp1 hp hvt).1,(Nd.add_gone hk0 hall he68 (by omega) hz hp1 hp hvt).2,hk,H⟩
theorem qu_Take (q:Nat) (p b:Nat) (V:Value) (w:Int) (t:List Im) (m:List (Int×Int)) (id:Int) (ht:t.length≤100000) (hk:Nd.AtOk t m) (hs:(getI m id).isSome=true):Tri prog 208 #[.pointer (some ⟨q,0,none⟩),.int .i64 id] [] [var q [.pointer (some ⟨p,0,none⟩),.int .i64 w] 206,var p [.map (some b),.int .i64 w,V] 294,row V 66 7 (t.map Im.cells),mi b (Value.int .i64) m] (fun v L'=>∃ x V' t' m',v=.tuple #[.agg #[.int .i64 x.id,.int .i64 x.level,.int .i64 x.from_,.int .i64 x.deadline,.int .i64 x.budget,.int .i64 x.since,.int .i64 x.seq],.bool true]∧x.id=id∧t.Perm (x :: t')∧Nd.AtOk t' m'∧L'=[var q [.pointer (some ⟨p,0,none⟩),.int .i64 w] 206,var p [.map (some b),.int .i64 w,V'] 294,row V' 66 7 (t'.map Im.cells),mi b (Value.int .i64) m']):=by
 refine Tri.en func208 H ntmps208 H fun w0=>J.co 2 H<|O.l (Lo.al Y66 H) H ?_
 rintro _ _ ⟨g1,rfl,rfl⟩
 refine O.oo 5 H<|O.l (Lo.ca C114 (qu_items q p w) [] H H (.own 1 H H .nil)) H ?_
 rintro _ _ ⟨_,⟨rfl,rfl⟩,rfl⟩
 refine O.oo 1 H<|O.l (Lo.ca call265 (pi_Take p b V w t m id (by omega) hk hs) [2,3,4] H H .nil) H ?_
 rintro _ _ ⟨_,⟨z3,V4,t5,m6,rfl,hx7,hq8,hk9,rfl⟩,rfl⟩
 have hk0:=hk
 have hz:=hx7
 have hp1:=hq8
 have hk:=hk9
 refine O.oo 2 H<|O.l0 (Lo.st 3 Z66 H H H H H H H) ?_
 rintro _ _ rfl
 refine O.oc 2 H ?_
 exact J.rn [_,_] [4,0,1,2] H ⟨⟨_,_,0,0,_,H,(Cel.var 3 H),H,(Cut.agg [.int .i64 z3.id,.int .i64 z3.level,.int .i64 z3.from_,.int .i64 z3.deadline,.int .i64 z3.budget,.int .i64 z3.since,.int .i64 z3.seq] A66 Z66 H H)⟩,H,trivial⟩ H ⟨_,_,_,_,H,hz,hp1,hk,H⟩
theorem qu_sw0 (gn gq go q:Nat) (now:Int) (x:Im) (he:Nd.ends x now=0):Tri prog 207 #[.agg #[.int .i64 x.id,.int .i64 x.level,.int .i64 x.from_,.int .i64 x.deadline,.int .i64 x.budget,.int .i64 x.since,.int .i64 x.seq],.pointer (some ⟨gn,0,none⟩),.pointer (some ⟨gq,0,none⟩),.pointer (some ⟨go,0,none⟩)] [var gn [.int .i64 now] 3,var gq [.pointer (some ⟨q,0,none⟩)] 84] [] (fun v L'=>v=.tuple #[]∧L'=[]):=by
 refine Tri.en func207 H ntmps207 H fun w0=>J.co 2 H<|O.l (Lo.bx H H) H ?_
 rintro _ _ ⟨g1,rfl,rfl⟩
 refine O.oo 3 H<|O.q (Qt.lva 0 A66 Z66 H H H) H<|O.q (Qt.lw 0 A3 H H H) H<|O.l (Lo.ca call104 (rk_Ends x now) [] H H .nil) H ?_
 rintro _ _ ⟨_,⟨rfl,rfl⟩,rfl⟩
 refine O.oc 2 H<|J.condF H (by simp [he])<|J.skip ?_
 exact J.dn [] [] H trivial H ⟨H,H⟩
theorem qu_sw1 (gn gq go:Nat) (q:Nat) (p b:Nat) (V:Value) (w:Int) (t:List Im) (m:List (Int×Int)) (now:Int) (x:Im) (W:Value) (ov:List Im) (ht:t.length≤100000) (hov:ov.length≤99999) (hk:Nd.AtOk t m) (he:¬Nd.ends x now=0) (hx:x∈t):Tri prog 207 #[.agg #[.int .i64 x.id,.int .i64 x.level,.int .i64 x.from_,.int .i64 x.deadline,.int .i64 x.budget,.int .i64 x.since,.int .i64 x.seq],.pointer (some ⟨gn,0,none⟩),.pointer (some ⟨gq,0,none⟩),.pointer (some ⟨go,0,none⟩)] [var gn [.int .i64 now] 3,var gq [.pointer (some ⟨q,0,none⟩)] 84] [var q [.pointer (some ⟨p,0,none⟩),.int .i64 w] 206,var p [.map (some b),.int .i64 w,V] 294,row V 66 7 (t.map Im.cells),mi b (Value.int .i64) m,var go [W] 52,row W 66 7 (ov.map Im.cells)] (fun v L'=>v=.tuple #[]∧∃ V' t' m' W',t.Perm (x :: t')∧Nd.AtOk t' m'∧L'=[var q [.pointer (some ⟨p,0,none⟩),.int .i64 w] 206,var p [.map (some b),.int .i64 w,V'] 294,row V' 66 7 (t'.map Im.cells),mi b (Value.int .i64) m',var go [W'] 52,row W' 66 7 ((ov++[x]).map Im.cells)]):=by
 refine Tri.en func207 H ntmps207 H fun w0=>J.co 2 H<|O.l (Lo.bx H H) H ?_
 rintro _ _ ⟨g1,rfl,rfl⟩
 refine O.oo 3 H<|O.q (Qt.lva 0 A66 Z66 H H H) H<|O.q (Qt.lw 0 A3 H H H) H<|O.l (Lo.ca call104 (rk_Ends x now) [] H H .nil) H ?_
 rintro _ _ ⟨_,⟨rfl,rfl⟩,rfl⟩
 refine O.oc 2 H<|J.condT H (by simp [he])<|J.co 2 H<|O.q (Qt.lw 1 A84 H H H) H<|O.oo 1 H<|O.q (Qt.lv 0 A3 H H H) H<|O.l (Lo.ca call208 (qu_Take q p b V w t m x.id (by omega) hk (hk.has hx)) [1,2,3,4] H H .nil) H ?_
 rintro _ _ ⟨_,⟨z3,V4,t5,m6,rfl,hx7,hq8,hk9,rfl⟩,rfl⟩
 have hk0:=hk
 have hz:=hx7
 have hp1:=hq8
 have hk:=hk9
 refine O.oo 2 H<|O.q (Qt.lv 5 A52 H H H) H<|O.q (Qt.lva 4 A66 Z66 H H H) H<|O.l (Lo.bm Im.cells [x] U52 Z66 Y66 H H H (by kernel_rfl) H H) H ?_
 rintro V11 _ rfl
 refine O.l (Lo.am 7 N52 info66 H H H H H (Src.row 0 H) Im.one (by first|omega|(simp only [List.length_append,List.length_cons,List.length_nil,List.length_set];omega)) (by first|omega|(simp only [List.length_append,List.length_cons,List.length_nil,List.length_set];omega))) H ?_
 rintro V12 _ rfl
 refine O.one (Src.row 7 H) (fun hV13=>?_)
 refine O.l0 (Lo.so 6 sizeOf52 hV13 H H H H) ?_
 rintro _ _ rfl
 refine O.nil ?_
 exact J.dn [] [1,2,3,4,6,7] H trivial H ⟨H,_,_,_,_,(hk0.uniq (hp1.mem_iff.2 (by simp)) hx hz) ▸ hp1,hk,H⟩
theorem qu_All (q p b:Nat) (V:Value) (w:Int) (t:List Im) (ht:t.length≤100000):Tri prog 40 #[.pointer (some ⟨q,0,none⟩)] [var q [.pointer (some ⟨p,0,none⟩),.int .i64 w] 206,var p [.map (some b),.int .i64 w,V] 294,rd V 7 (t.map Im.cells)] [] (fun v L'=>∃ o:List Im,o.Perm t∧L'=[row v 66 7 (o.map Im.cells)]):=by
 refine Tri.en func40 H ntmps40 H fun w0=>J.co 7 H<|O.l (Lo.ca C114 (qu_items q p w) [] H H (.ro 0 H .nil)) H ?_
 rintro _ _ ⟨_,⟨rfl,rfl⟩,rfl⟩
 refine O.l (Lo.ca call115 (pi_All p b V w t (by omega)) [] H H (.ro 1 H (.ro 2 H .nil))) H ?_
 rintro v4 _ ⟨_,⟨o2,hq3,rfl⟩,rfl⟩
 have hall:=hq3
 have hol:=hall.length_eq
 refine O.oc 2 H ?_
 exact J.r1 [0] H H H ⟨_,hall,H⟩
theorem qu_each (gn gq go:Nat) (q:Nat) (p b:Nat) (V:Value) (w:Int) (t:List Im) (m:List (Int×Int)) (now:Int) (W:Value) (ht:t.length≤99999) (hk:Nd.AtOk t m):Tri prog 206 #[.pointer (some ⟨q,0,none⟩),.func (.func 207) #[] #[.pointer (some ⟨gn,0,none⟩),.pointer (some ⟨gq,0,none⟩),.pointer (some ⟨go,0,none⟩)]] [var gn [.int .i64 now] 3,var gq [.pointer (some ⟨q,0,none⟩)] 84] [var q [.pointer (some ⟨p,0,none⟩),.int .i64 w] 206,var p [.map (some b),.int .i64 w,V] 294,row V 66 7 (t.map Im.cells),mi b (Value.int .i64) m,var go [W] 52,row W 66 7 (([]:List Im).map Im.cells)] (fun v L'=>v=.tuple #[]∧∃ V' t' m' W' o,o.Perm t∧t'.Perm (Nd.Kept o now o.length)∧Nd.AtOk t' m'∧L'=[var q [.pointer (some ⟨p,0,none⟩),.int .i64 w] 206,var p [.map (some b),.int .i64 w,V'] 294,row V' 66 7 (t'.map Im.cells),mi b (Value.int .i64) m',var go [W'] 52,row W' 66 7 ((Nd.Gone o now o.length).map Im.cells)]):=by
 refine Tri.en func206 H ntmps206 H fun w0=>J.co 3 H<|O.l (Lo.ca call40 (qu_All q p b V w t (by omega)) [] H H (.own 0 H H (.own 1 H H (.of 2 row_rd H H .nil)))) H ?_
 rintro v3 _ ⟨_,⟨o1,hq2,rfl⟩,rfl⟩
 have hall:=hq2
 have hol:=hall.length_eq
 refine O.q (Qt.lenM U52 H (Src.row 0 H)) H<|O.oc 3 H ?_
 refine J.lo (X:=Nat×Value×List Im×(List (Int×Int))×Value×List Im) (fun (k,V1,t1,m1,W1,ov1)=>k≤o1.length∧ov1=Nd.Gone o1 now k∧t1.Perm (Nd.Kept o1 now k++o1.drop k)∧Nd.AtOk t1 m1) (fun (k,V1,t1,m1,W1,ov1)=>[(9,.int .i64 (k:Int))]) (fun (k,V1,t1,m1,W1,ov1)=>[var p [.map (some b),.int .i64 w,V1] 294,row V1 66 7 (t1.map Im.cells),mi b (Value.int .i64) m1,var go [W1] 52,row W1 66 7 (ov1.map Im.cells)]) (fun (k,V1,t1,m1,W1,ov1)=>o1.length-k) ⟨0,V,t,m,W,([]:List Im)⟩ [1,7,8] [2,3,4,5,6] [1,0] ⟨by omega,rfl,Nd.sweep_zero hall,hk⟩ ⟨(eqi (by omega)),trivial⟩ H H ?_
 rintro ⟨k,V1,t1,m1,W1,ov1⟩ ⟨hkk,hov,hp,hk⟩
 refine J.cc 5 H ?_
 refine J.cd H (fun p4=>?_) (fun p4=>?_)
 ·
  refine J.co 5 H ?_
  obtain ⟨e5,he5⟩:=ex_at (l:=o1) (i:=k) (by omega)
  refine O.q (Qt.ix U52 Z66 H (Src.row 6 H) he5 H (by rfl)) H<|O.q (Qt.lea A66 Z66 (Src.row 6 H) he5 0 H (by omega) H) H<|O.l (Lo.al Y66 H) H ?_
  rintro _ _ ⟨g6,rfl,rfl⟩
  refine O.l0 (Lo.st 0 Z66 H H H H H H H) ?_
  rintro _ _ rfl
  refine O.nil ?_
  refine by_bool (decide (Nd.ends e5 now=0)) (fun h7=>?_) (fun h7=>?_)
  ·
   have p8:=of_decide_eq_true h7
   refine J.co 2 H<|O.q (Qt.lva 0 A66 Z66 H H H) H<|O.l (Lo.cv call207 H H (qu_sw0 gn gq go q now e5 (of_decide_eq_true h7)) [] H (.ro 0 H (.ro 1 H .nil))) H ?_
   rintro _ _ ⟨_,⟨rfl,rfl⟩,rfl⟩
   refine O.oo 3 H<|O.p (Pu.add' H H (by omega)) H<|O.oc 2 H ?_
   exact J.lq ⟨k+1,V1,t1,m1,W1,ov1⟩ [1,7,8] [1,2,3,4,5] [6,7] ⟨by omega,hov.trans (Nd.kept_next he5 (of_decide_eq_true h7)).2.symm,Nd.sweep_stay hp he5 (of_decide_eq_true h7),hk⟩ (by dsimp only;omega) ⟨(eqi (by omega)),trivial⟩ H H
  have p10:=of_decide_eq_false h7
  refine J.co 2 H<|O.q (Qt.lva 0 A66 Z66 H H H) H<|O.l (Lo.cv call207 H H (qu_sw1 gn gq go q p b V1 w t1 m1 now e5 W1 ov1 (by first|omega|(have h_:=Nd.sweep_len hp (by omega);omega)|(have h_:=Nd.gone_len (o:=o1) (now:=now) (k:=k);rw [hov];omega)) (by first|omega|(have h_:=Nd.sweep_len hp (by omega);omega)|(have h_:=Nd.gone_len (o:=o1) (now:=now) (k:=k);rw [hov];omega)) hk (of_decide_eq_false h7) (Nd.sweep_mem hp he5)) [6,1,2,3,4,5] H (.ro 0 H (.ro 1 H .nil))) H ?_
  rintro _ _ ⟨_,⟨rfl,V11,t12,m13,W14,hq15,hk16,rfl⟩,rfl⟩
  have hp:=Nd.sweep_go hp he5 (of_decide_eq_false h7) hq15
  have hk:=hk16
  refine O.oo 3 H<|O.p (Pu.add' H H (by omega)) H<|O.oc 2 H ?_
  exact J.lq ⟨k+1,V11,t12,m13,W14,ov1++[e5]⟩ [1,7,8] [1,2,3,4,5] [0,7] ⟨by omega,(by rw [hov];exact (Nd.gone_next he5 (of_decide_eq_false h7)).2.symm),hp,hk⟩ (by dsimp only;omega) ⟨(eqi (by omega)),trivial⟩ H H
 refine J.cc 1 H ?_
 exact J.dn [] [5,0,1,2,3,4] H trivial H ⟨H,_,_,_,_,o1,hall,Nd.sweep_all hp (by omega) hkk,hk,(by rw [hov,show k=o1.length from by omega])⟩
theorem qu_Sweep (q:Nat) (p b:Nat) (V:Value) (w:Int) (t:List Im) (m:List (Int×Int)) (now:Int) (ht:t.length≤99999) (hk:Nd.AtOk t m):Tri prog 103 #[.pointer (some ⟨q,0,none⟩),.int .i64 now] [] [var q [.pointer (some ⟨p,0,none⟩),.int .i64 w] 206,var p [.map (some b),.int .i64 w,V] 294,row V 66 7 (t.map Im.cells),mi b (Value.int .i64) m] (fun v L'=>∃ V' t' m' o,o.Perm t∧t'.Perm (Nd.Kept o now o.length)∧Nd.AtOk t' m'∧L'=[var q [.pointer (some ⟨p,0,none⟩),.int .i64 w] 206,var p [.map (some b),.int .i64 w,V'] 294,row V' 66 7 (t'.map Im.cells),mi b (Value.int .i64) m',row v 66 7 ((Nd.Gone o now o.length).map Im.cells)]):=by
 refine Tri.en func103 H ntmps103 H fun w0=>J.co 2 H<|O.l (Lo.bx H H) H ?_
 rintro _ _ ⟨g1,rfl,rfl⟩
 refine O.l (Lo.bx H H) H ?_
 rintro _ _ ⟨g2,rfl,rfl⟩
 refine O.oo 4 H<|O.l (Lo.al zeroValue52 H) H ?_
 rintro _ _ ⟨g3,rfl,rfl⟩
 refine O.oc 2 H<|J.nr 66 7 (([]:List Im).map Im.cells) H<|J.region<|O.q (Qt.lv 3 A84 H H H) H<|O.p (Pu.makeFunc [.pointer (some ⟨g2,0,none⟩),.pointer (some ⟨g1,0,none⟩),.pointer (some ⟨g3,0,none⟩)] H) H<|O.l (Lo.ca call206 (qu_each g2 g1 g3 q p b V w t m now (Value.slice none 0 0) (by omega) hk) [4,5,6,7,1,0] H H (.own 2 H H (.own 3 H H .nil))) H ?_
 rintro _ _ ⟨_,⟨rfl,V4,t5,m6,W7,o8,ho9,hq10,hk11,rfl⟩,rfl⟩
 have hall:=ho9
 have hp:=hq10
 have hk:=hk11
 refine O.oo 3 H<|O.q (Qt.lv 4 A52 H H H) H<|O.oc 2 H ?_
 exact J.r1 [0,1,2,3,5] H H H ⟨_,_,_,_,hall,hp,hk,H⟩
theorem qu_Next (q:Nat) (p b:Nat) (V:Value) (w:Int) (t:List Im) (m:List (Int×Int)) (ht:t.length≤100000) (hk:Nd.AtOk t m) (h0:0 < t.length):Tri prog 184 #[.pointer (some ⟨q,0,none⟩)] [] [var q [.pointer (some ⟨p,0,none⟩),.int .i64 w] 206,var p [.map (some b),.int .i64 w,V] 294,row V 66 7 (t.map Im.cells),mi b (Value.int .i64) m] (fun v L'=>∃ x V' t' m',v=.tuple #[.agg #[.int .i64 x.id,.int .i64 x.level,.int .i64 x.from_,.int .i64 x.deadline,.int .i64 x.budget,.int .i64 x.since,.int .i64 x.seq],.bool true]∧t[0]?=some x∧t.Perm (x :: t')∧Nd.AtOk t' m'∧L'=[var q [.pointer (some ⟨p,0,none⟩),.int .i64 w] 206,var p [.map (some b),.int .i64 w,V'] 294,row V' 66 7 (t'.map Im.cells),mi b (Value.int .i64) m']):=by
 refine Tri.en func184 H ntmps184 H fun w0=>J.co 2 H<|O.l (Lo.al Y66 H) H ?_
 rintro _ _ ⟨g1,rfl,rfl⟩
 refine O.oo 5 H<|O.l (Lo.ca C114 (qu_items q p w) [] H H (.own 1 H H .nil)) H ?_
 rintro _ _ ⟨_,⟨rfl,rfl⟩,rfl⟩
 refine O.l (Lo.ca call266 (pi_Pop p b V w t m (by omega) hk h0) [2,3,4] H H .nil) H ?_
 rintro _ _ ⟨_,⟨x3,V4,t5,m6,rfl,hx7,hq8,hk9,rfl⟩,rfl⟩
 have hx:=hx7
 have hp:=hq8
 have hk:=hk9
 refine O.oo 2 H<|O.l0 (Lo.st 3 Z66 H H H H H H H) ?_
 rintro _ _ rfl
 refine O.oc 2 H ?_
 exact J.rn [_,_] [4,0,1,2] H ⟨⟨_,_,0,0,_,H,(Cel.var 3 H),H,(Cut.agg [.int .i64 x3.id,.int .i64 x3.level,.int .i64 x3.from_,.int .i64 x3.deadline,.int .i64 x3.budget,.int .i64 x3.since,.int .i64 x3.seq] A66 Z66 H H)⟩,H,trivial⟩ H ⟨_,_,_,_,H,hx,hp,hk,H⟩
theorem qu_NextNo (q p b:Nat) (V:Value) (w:Int) (t:List Im) (m:List (Int×Int)) (h0:t.length=0):Tri prog 184 #[.pointer (some ⟨q,0,none⟩)] [] [var q [.pointer (some ⟨p,0,none⟩),.int .i64 w] 206,var p [.map (some b),.int .i64 w,V] 294,row V 66 7 (t.map Im.cells),mi b (Value.int .i64) m] (fun v L'=>v=.tuple #[.agg #[.int .i64 Im.zero.id,.int .i64 Im.zero.level,.int .i64 Im.zero.from_,.int .i64 Im.zero.deadline,.int .i64 Im.zero.budget,.int .i64 Im.zero.since,.int .i64 Im.zero.seq],.bool false]∧L'=[var q [.pointer (some ⟨p,0,none⟩),.int .i64 w] 206,var p [.map (some b),.int .i64 w,V] 294,row V 66 7 (t.map Im.cells),mi b (Value.int .i64) m]):=by
 refine Tri.en func184 H ntmps184 H fun w0=>J.co 2 H<|O.l (Lo.al Y66 H) H ?_
 rintro _ _ ⟨g1,rfl,rfl⟩
 refine O.oo 5 H<|O.l (Lo.ca C114 (qu_items q p w) [] H H (.own 1 H H .nil)) H ?_
 rintro _ _ ⟨_,⟨rfl,rfl⟩,rfl⟩
 refine O.l (Lo.ca call266 (pi_PopNo p b V w t m h0) [] H H (.own 2 H H (.of 3 row_rd H H .nil))) H ?_
 rintro _ _ ⟨_,⟨rfl,rfl⟩,rfl⟩
 refine O.oo 2 H<|O.l0 (Lo.st 0 Z66 H H H H H H H) ?_
 rintro _ _ rfl
 refine O.oc 2 H ?_
 exact J.rn [_,_] [1,2,3,4] H ⟨⟨_,_,0,0,_,H,(Cel.var 0 H),H,(Cut.agg [.int .i64 Im.zero.id,.int .i64 Im.zero.level,.int .i64 Im.zero.from_,.int .i64 Im.zero.deadline,.int .i64 Im.zero.budget,.int .i64 Im.zero.since,.int .i64 Im.zero.seq] A66 Z66 H H)⟩,H,trivial⟩ H ⟨H,H⟩
theorem qu_Has (q:Nat) (p b:Nat) (V:Value) (w:Int) (t:List Im) (m:List (Int×Int)) (id:Int) (ht:t.length≤100000) (hk:Nd.AtOk t m):Tri prog 176 #[.pointer (some ⟨q,0,none⟩),.int .i64 id] [var q [.pointer (some ⟨p,0,none⟩),.int .i64 w] 206,var p [.map (some b),.int .i64 w,V] 294,rd V 7 (t.map Im.cells),mi b (Value.int .i64) m] [] (fun v L'=>v=.bool (getI m id).isSome∧L'=[]):=by
 refine Tri.en func176 H ntmps176 H fun w0=>J.co 7 H<|O.l (Lo.ca C114 (qu_items q p w) [] H H (.ro 0 H .nil)) H ?_
 rintro _ _ ⟨_,⟨rfl,rfl⟩,rfl⟩
 refine O.oo 1 H<|O.l (Lo.ca call259 (pi_Get p b V w t m id (by omega) hk) [] H H (.ro 1 H (.ro 2 H (.ro 3 H .nil)))) H ?_
 rintro _ _ ⟨_,⟨x2,rfl,rfl⟩,rfl⟩
 refine O.oo 3 H<|O.l (Lo.al Y66 H) H ?_
 rintro _ _ ⟨g4,rfl,rfl⟩
 refine O.l0 (Lo.st 0 Z66 H H H H H H H) ?_
 rintro _ _ rfl
 refine O.oc 7 H ?_
 exact J.r0 H H ⟨H,H⟩
theorem qu_Clear (q:Nat) (p b:Nat) (V:Value) (w:Int) (t:List Im) (m:List (Int×Int)):Tri prog 108 #[.pointer (some ⟨q,0,none⟩)] [] [var q [.pointer (some ⟨p,0,none⟩),.int .i64 w] 206,var p [.map (some b),.int .i64 w,V] 294,row V 66 7 (t.map Im.cells),mi b (Value.int .i64) m] (fun v L'=>v=.tuple #[]∧L'=[var q [.pointer (some ⟨p,0,none⟩),.int .i64 w] 206,var p [.map (some b),.int .i64 w,Value.slice none 0 0] 294,row (Value.slice none 0 0) 66 7 (([]:List Im).map Im.cells),mi b (Value.int .i64) ([]:List (Int×Int))]):=by
 refine Tri.en func108 H ntmps108 H fun w0=>J.co 2 H<|O.l (Lo.ca C114 (qu_items q p w) [] H H (.own 0 H H .nil)) H ?_
 rintro _ _ ⟨_,⟨rfl,rfl⟩,rfl⟩
 refine O.l (Lo.ca call215 (pi_Clear p b V w t m) [1,2,3] H H .nil) H ?_
 rintro _ _ ⟨_,⟨rfl,rfl⟩,rfl⟩
 refine O.nil ?_
 exact J.dn [] [3,0,1,2] H trivial H ⟨H,H⟩
theorem qu_New (w:Int) (hw:1≤w) (hw1:w≤64):Tri prog 54 #[.int .i64 w] [] [] (fun v L'=>∃ q p b,v=.tuple #[.pointer (some ⟨q,0,none⟩),.int .i64 0]∧L'=[var q [.pointer (some ⟨p,0,none⟩),.int .i64 w] 206,var p [.map (some b),.int .i64 w,Value.slice none 0 0] 294,row (Value.slice none 0 0) 66 7 (([]:List Im).map Im.cells),mi b (Value.int .i64) ([]:List (Int×Int))]):=by
 refine Tri.en func54 H ntmps54 H fun w0=>J.cc 11 H<|J.condF H (decide_eq_false (by omega))<|J.co 4 H<|O.l (Lo.ca call134 (pi_New w (by omega) (by omega)) [] H H .nil) H ?_
 rintro _ _ ⟨_,⟨g1,b2,rfl,rfl⟩,rfl⟩
 refine O.oc 12 H<|J.condF H (by decide)<|J.co 5 H<|O.p (Pu.build [(0,.pointer (some ⟨g1,0,none⟩)),(1,.int .i64 w)] [.pointer (some ⟨g1,0,none⟩),.int .i64 w] #[(0,1),(1,1)] runUnderlying206 zeroValue206 (places206 underlying206) H (by kernel_rfl)) H<|O.l (Lo.bx H H) H ?_
 rintro _ _ ⟨g4,rfl,rfl⟩
 refine O.oc 3 H ?_
 exact J.rn [_,_] [0,1,2,3] H ⟨H,H,trivial⟩ H ⟨g4,g1,b2,H,H⟩
theorem sl_places (s:Nat) (many:Int) (ps:Nd.Pl):Tri prog 116 #[.pointer (some ⟨s,0,none⟩)] [var s ([Value.int .i64 many]++ps.map Nd.sP) 210] [] (fun v L'=>v=.int .i64 many∧L'=[]):=by
 refine Tri.en func116 H ntmps116 H fun w0=>J.co 8 H<|O.p (Pu.someEq underlying85 H) H<|O.oo 8 H<|O.q (Qt.lw 0 A3 H H H) H<|O.oc 2 H ?_
 exact J.r0 H H ⟨H,H⟩
theorem sl_Place (s:Nat) (many:Int) (ps:Nd.Pl) (id:Int) (hl:ps.length=16) (hm0:0≤many) (hm:many≤16):Tri prog 267 #[.pointer (some ⟨s,0,none⟩),.int .i64 id] [var s ([Value.int .i64 many]++ps.map Nd.sP) 210,bun (Nd.sI 66 ps)] [] (fun v L'=>∃ (k:Nat) (b:Bool),v=.tuple #[.int .i64 (k:Int),.bool b]∧(b=true→∃ g y,ps[k]?=some (some (g,y))∧y.id=id∧(k:Int) < many)∧(b=false→∀ (j g:Nat) (y:Im),(j:Int) < many→ps[j]?=some (some (g,y))→y.id≠id)∧L'=[]):=by
 refine Tri.en func267 H ntmps267 H fun w0=>J.co 9 H<|O.l (Lo.ca call116 (sl_places s many ps) [] H H (.ro 0 H .nil)) H ?_
 rintro _ _ ⟨_,⟨rfl,rfl⟩,rfl⟩
 refine O.oc 3 H ?_
 refine J.lo (X:=Nat) (fun k=>(k:Int)≤many∧(∀ (j g:Nat) (y:Im),j < k→ps[j]?=some (some (g,y))→y.id≠id)) (fun k=>[(10,.int .i64 (k:Int))]) (fun k=>[]) (fun k=>many.toNat-k) 0 [0,1,9] [] [] ⟨by omega,fun j_ g_ y_ h_=>by omega⟩ ⟨(eqi (by omega)),trivial⟩ H H ?_
 rintro k ⟨hk,hno⟩
 refine J.cc 5 H ?_
 refine J.cd H (fun p2=>?_) (fun p2=>?_)
 ·
  refine J.co 14 H ?_
  obtain ⟨e3,he4⟩:=ex_at (l:=ps) (i:=((k:Int)).toNat) (by omega)
  refine O.p (Pu.indexAddrG U208 Z207 H H (by omega) (by omega)) H<|O.q (Qt.ld H (Cel.roVar 0 H) (o:=0) (off:=1+((k:Int)).toNat) (by omega) (Cut.one isAgg207 (at_hd H he4))) H<|O.oc 3 H ?_
  rcases e3 with _|⟨g5,y6⟩
  ·
   refine J.co 2 H<|O.p (Pu.ptrNeNil N207 H) H<|O.oo 13 H<|O.p (Pu.add' H H (by omega)) H<|O.oc 2 H ?_
   exact J.lq (k+1) [0,1,9] [] [] ⟨by omega,fun j_ g_ y_ hj_ hy_=>by rcases Nat.lt_or_ge j_ k with h_|h_;exact hno j_ g_ y_ h_ hy_;(have:j_=k:=by omega);subst this;simp_all⟩ (by omega) ⟨(eqi (by omega)),trivial⟩ H H
  refine J.co 2 H<|O.p (Pu.ptrNe N207 H) H<|O.oo 4 H<|O.gz (Qt.ld H (Cel.roBun 1 H (Nd.sI_mem he4)) (o:=0) (off:=0) H (Cut.one A3 H)) H H<|O.oc 4 H ?_
  refine J.cd H (fun p7=>?_) (fun p7=>?_)
  ·
   refine J.cc 6 H ?_
   exact J.rn [_,_] [] H ⟨H,H,trivial⟩ H ⟨k,true,H,fun _=>⟨g5,y6,he4,(by assumption),(by omega)⟩,(fun h_=>by cases h_),H⟩
  refine J.co 3 H<|O.p (Pu.add' H H (by omega)) H<|O.oc 2 H ?_
  exact J.lq (k+1) [0,1,9] [] [] ⟨by omega,fun j_ g_ y_ hj_ hy_=>by rcases Nat.lt_or_ge j_ k with h_|h_;exact hno j_ g_ y_ h_ hy_;(have:j_=k:=by omega);subst this;simp_all⟩ (by omega) ⟨(eqi (by omega)),trivial⟩ H H
 refine J.cc 6 H ?_
 exact J.rn [_,_] [] H ⟨H,H,trivial⟩ H ⟨0,false,H,(fun h_=>by cases h_),(fun _ j_ g_ y_ hj_ hy_=>hno j_ g_ y_ (by omega) hy_),H⟩
theorem sl_PlaceNo (s:Nat) (many:Int) (ps:Nd.Pl) (id:Int) (hl:ps.length=16) (hm0:0≤many) (hm:many≤16) (hno:∀ (j g:Nat) (y:Im),(j:Int) < many→ps[j]?=some (some (g,y))→y.id≠id):Tri prog 267 #[.pointer (some ⟨s,0,none⟩),.int .i64 id] [var s ([Value.int .i64 many]++ps.map Nd.sP) 210,bun (Nd.sI 66 ps)] [] (fun v L'=>∃ k:Nat,v=.tuple #[.int .i64 (k:Int),.bool false]∧L'=[]):=by
  refine (sl_Place s many ps id hl hm0 hm).weak fun v L' ⟨k,b,hv,h1,h0,hL⟩=>?_
  cases b with
  | false=>exact ⟨k,hv,hL⟩
  | true=>obtain ⟨g,y,h2,h3,h4⟩:=h1 rfl;exact absurd h3 (hno k g y h4 h2)
theorem sl_PlaceYes (s:Nat) (many:Int) (ps:Nd.Pl) (id:Int) (hl:ps.length=16) (hm0:0≤many) (hm:many≤16) (hy:∃ (j g:Nat) (y:Im),(j:Int) < many∧ps[j]?=some (some (g,y))∧y.id=id):Tri prog 267 #[.pointer (some ⟨s,0,none⟩),.int .i64 id] [var s ([Value.int .i64 many]++ps.map Nd.sP) 210,bun (Nd.sI 66 ps)] [] (fun v L'=>∃ (k g:Nat) (y:Im),v=.tuple #[.int .i64 (k:Int),.bool true]∧ps[k]?=some (some (g,y))∧y.id=id∧(k:Int) < many∧L'=[]):=by
  refine (sl_Place s many ps id hl hm0 hm).weak fun v L' ⟨k,b,hv,h1,h0,hL⟩=>?_
  cases b with
  | false=>obtain ⟨j,g,y,h2,h3,h4⟩:=hy;exact absurd h4 (h0 rfl j g y h2 h3)
  | true=>obtain ⟨g,y,h2,h3,h4⟩:=h1 rfl;exact ⟨k,g,y,hv,h2,h3,h4,hL⟩
theorem sl_PutRaw (s:Nat) (many:Int) (ps:Nd.Pl) (x:Im) (hl:ps.length=16) (hm0:0≤many) (hm:many≤16) (hno:∀ (j g:Nat) (y:Im),(j:Int) < many→ps[j]?=some (some (g,y))→y.id≠x.id) (hfr:∃ k:Nat,(k:Int) < many∧ps[k]?=some none):Tri prog 185 #[.pointer (some ⟨s,0,none⟩),.agg #[.int .i64 x.id,.int .i64 x.level,.int .i64 x.from_,.int .i64 x.deadline,.int .i64 x.budget,.int .i64 x.since,.int .i64 x.seq]] [] [var s ([Value.int .i64 many]++ps.map Nd.sP) 210,bun (Nd.sI 66 ps)] (fun v L'=>∃ (g k:Nat),v=.tuple #[.int .i64 (k:Int),.int .i64 0]∧(k:Int) < many∧ps[k]?=some none∧L'=[var g x.cells 66,var s ([Value.int .i64 many]++(ps.set k (some (g,x))).map Nd.sP) 210,bun (Nd.sI 66 ps)]):=by
 refine Tri.en func185 H ntmps185 H fun w0=>J.co 2 H<|O.l (Lo.bx H H) H ?_
 rintro _ _ ⟨g1,rfl,rfl⟩
 refine O.oo 8 H<|O.q (Qt.lv 0 A3 H H H) H<|O.l (Lo.ca call267 (sl_PlaceNo s many ps x.id hl hm0 hm hno) [] H H (.own 1 H H (.own 2 H H .nil))) H ?_
 rintro _ _ ⟨_,⟨k2,rfl,rfl⟩,rfl⟩
 refine O.oo 16 H<|O.l (Lo.ca call116 (sl_places s many ps) [] H H (.own 1 H H .nil)) H ?_
 rintro _ _ ⟨_,⟨rfl,rfl⟩,rfl⟩
 refine O.oc 3 H ?_
 refine J.lo (X:=Nat) (fun k=>(k:Int)≤many∧(∀ j:Nat,j < k→ps[j]?≠some none)) (fun k=>[(19,.int .i64 (k:Int))]) (fun k=>[]) (fun k=>many.toNat-k) 0 [0,3,18] [] [0,1,2] ⟨by omega,fun j_ h_=>by omega⟩ ⟨(eqi (by omega)),trivial⟩ H H ?_
 rintro k ⟨hk,hnn⟩
 refine J.cc 5 H ?_
 refine J.cd H (fun p5=>?_) (fun p5=>?_)
 ·
  refine J.co 14 H ?_
  obtain ⟨e6,he7⟩:=ex_at (l:=ps) (i:=((k:Int)).toNat) (by omega)
  refine O.p (Pu.indexAddrG U208 Z207 H H (by omega) (by omega)) H<|O.q (Qt.ld H (Cel.var 1 H) (o:=0) (off:=1+((k:Int)).toNat) (by omega) (Cut.one isAgg207 (at_hd H he7))) H<|O.p (Nd.Pu.sPEq N207 H) H<|O.nil ?_
  refine J.cond H (fun h8=>?_) (fun h8=>?_)
  ·
   refine J.co 6 H<|O.p (Pu.indexAddrG U208 Z207 H H (by omega) (by omega)) H<|O.l0 (Lo.store 1 (vs:=[.pointer (some ⟨g1,0,none⟩)]) ([Value.int .i64 many]++(ps.set ((k:Int)).toNat (some (g1,x))).map Nd.sP) H H H Z207 H H H (set_hd (f:=Nd.sP) (hd:=[Value.int .i64 many]) (n:=0+1) (x:=(some (g1,x))) (l:=ps) (i:=((k:Int)).toNat) H (by omega)) (hd_fits (f:=Nd.sP) (hd:=[Value.int .i64 many]) (n:=0+1) (l:=ps) (i:=((k:Int)).toNat) H (by omega))) ?_
   rintro _ _ rfl
   refine O.oc 7 H ?_
   exact J.rn [_,_] [0,1,2] H ⟨H,H,trivial⟩ H ⟨g1,k,H,(by omega),(by have h2_:ps[k]?=_:=he7;rw [Option.isNone_iff_eq_none.1 h8] at h2_;exact h2_),H⟩
  refine J.co 3 H<|O.p (Pu.add' H H (by omega)) H<|O.oc 2 H ?_
  exact J.lq (k+1) [0,3,18] [] [0,1,2] ⟨by omega,fun j_ hj_ hy_=>by rcases Nat.lt_or_ge j_ k with h_|h_;exact hnn j_ h_ hy_;(have h3_:j_=k:=by omega);rw [h3_] at hy_;have h2_:=(show ps[k]?=_ from he7).symm.trans hy_;rw [Option.some.inj h2_] at h8;cases h8⟩ (by omega) ⟨(eqi (by omega)),trivial⟩ H H
 obtain ⟨k_,h1_,h2_⟩:=hfr;exact absurd h2_ (hnn k_ (by omega))
theorem sl_TakeRaw (s:Nat) (many:Int) (ps:Nd.Pl) (id:Int) (hl:ps.length=16) (hm0:0≤many) (hm:many≤16) (hy:∃ (j g:Nat) (y:Im),(j:Int) < many∧ps[j]?=some (some (g,y))∧y.id=id):Tri prog 272 #[.pointer (some ⟨s,0,none⟩),.int .i64 id] [] [var s ([Value.int .i64 many]++ps.map Nd.sP) 210,bun (Nd.sI 66 ps)] (fun v L'=>∃ (k g:Nat) (y:Im),v=.tuple #[.agg #[.int .i64 y.id,.int .i64 y.level,.int .i64 y.from_,.int .i64 y.deadline,.int .i64 y.budget,.int .i64 y.since,.int .i64 y.seq],.bool true]∧ps[k]?=some (some (g,y))∧y.id=id∧(k:Int) < many∧L'=[var s ([Value.int .i64 many]++(ps.set k none).map Nd.sP) 210,bun (Nd.sI 66 ps)]):=by
 refine Tri.en func272 H ntmps272 H fun w0=>J.co 2 H<|O.l (Lo.al Y66 H) H ?_
 rintro _ _ ⟨g1,rfl,rfl⟩
 refine O.oo 6 H<|O.l (Lo.ca call267 (sl_PlaceYes s many ps id hl hm0 hm hy) [] H H (.own 1 H H (.own 2 H H .nil))) H ?_
 rintro _ _ ⟨_,⟨k2,g3,y4,rfl,hp5,hi6,hk7,rfl⟩,rfl⟩
 refine O.oo 20 H<|O.p (Pu.indexAddrG U208 Z207 H H (by omega) (by omega)) H<|O.q (Qt.ld H (Cel.var 1 H) (o:=0) (off:=1+((k2:Int)).toNat) (by omega) (Cut.one isAgg207 (at_hd H hp5))) H<|O.oo 1 H<|O.q (Qt.ld H (Cel.bun 2 H (Nd.sI_mem hp5)) (o:=0) (off:=0) H (Cut.agg [.int .i64 y4.id,.int .i64 y4.level,.int .i64 y4.from_,.int .i64 y4.deadline,.int .i64 y4.budget,.int .i64 y4.since,.int .i64 y4.seq] A66 Z66 H H)) H<|O.l (Lo.al Y66 H) H ?_
 rintro _ _ ⟨g9,rfl,rfl⟩
 refine O.l0 (Lo.st 0 Z66 H H H H H H H) ?_
 rintro _ _ rfl
 refine O.oo 7 H<|O.p (Pu.indexAddrG U208 Z207 H H (by omega) (by omega)) H<|O.l0 (Lo.store 2 (vs:=[Value.pointer none]) ([Value.int .i64 many]++(ps.set ((k2:Int)).toNat none).map Nd.sP) H H H Z207 H H H (set_hd (f:=Nd.sP) (hd:=[Value.int .i64 many]) (n:=0+1) (x:=none) (l:=ps) (i:=((k2:Int)).toNat) H (by omega)) (hd_fits (f:=Nd.sP) (hd:=[Value.int .i64 many]) (n:=0+1) (l:=ps) (i:=((k2:Int)).toNat) H (by omega))) ?_
 rintro _ _ rfl
 refine O.oo 3 H<|O.q (Qt.lva 0 A66 Z66 H H H) H<|O.l0 (Lo.st 1 Z66 H H H H H H H) ?_
 rintro _ _ rfl
 refine O.oc 2 H ?_
 exact J.rn [_,_] [2,3] H ⟨⟨_,_,0,0,_,H,(Cel.var 1 H),H,(Cut.agg [.int .i64 y4.id,.int .i64 y4.level,.int .i64 y4.from_,.int .i64 y4.deadline,.int .i64 y4.budget,.int .i64 y4.since,.int .i64 y4.seq] A66 Z66 H H)⟩,H,trivial⟩ H ⟨k2,g3,y4,H,hp5,hi6,(by omega),H⟩
theorem sl_Put (s:Nat) (many:Int) (ps:Nd.Pl) (x:Im) (hl:ps.length=16) (hm0:0≤many) (hm:many≤16) (hbe:Nd.Beyond ps many.toNat) (hno:∀ (j g:Nat) (y:Im),(j:Int) < many→ps[j]?=some (some (g,y))→y.id≠x.id) (hfr:∃ k:Nat,(k:Int) < many∧ps[k]?=some none):Tri prog 185 #[.pointer (some ⟨s,0,none⟩),.agg #[.int .i64 x.id,.int .i64 x.level,.int .i64 x.from_,.int .i64 x.deadline,.int .i64 x.budget,.int .i64 x.since,.int .i64 x.seq]] [] [var s ([Value.int .i64 many]++ps.map Nd.sP) 210,bun (Nd.sI 66 ps)] (fun v L'=>∃ (k:Nat) (ps':Nd.Pl),v=.tuple #[.int .i64 (k:Int),.int .i64 0]∧ps'.length=16∧Nd.Beyond ps' many.toNat∧(Nd.its ps').Perm (x :: Nd.its ps)∧L'=[var s ([Value.int .i64 many]++ps'.map Nd.sP) 210,bun (Nd.sI 66 ps')]):=by
 refine (sl_PutRaw s many ps x hl hm0 hm hno hfr).conv (Re.refl _) ?_
 rintro v L' ⟨g,k,rfl,hk,hp,rfl⟩
 refine ⟨_,⟨k,_,rfl,by simpa using hl,Nd.beyond_set hbe (by omega),(Nd.put_items (g:=g) (T:=66) hp).1,rfl⟩,?_⟩
 refine Re.trans (Re.perm (List.Perm.swap _ _ _)) (Re.cons ?_)
 exact Nd.bun_more (Nd.put_items (T:=66) hp).2
theorem sl_Take (s:Nat) (many:Int) (ps:Nd.Pl) (id:Int) (hl:ps.length=16) (hm0:0≤many) (hm:many≤16) (hbe:Nd.Beyond ps many.toNat) (hy:∃ (j g:Nat) (y:Im),(j:Int) < many∧ps[j]?=some (some (g,y))∧y.id=id):Tri prog 272 #[.pointer (some ⟨s,0,none⟩),.int .i64 id] [] [var s ([Value.int .i64 many]++ps.map Nd.sP) 210,bun (Nd.sI 66 ps)] (fun v L'=>∃ (y:Im) (ps':Nd.Pl),v=.tuple #[.agg #[.int .i64 y.id,.int .i64 y.level,.int .i64 y.from_,.int .i64 y.deadline,.int .i64 y.budget,.int .i64 y.since,.int .i64 y.seq],.bool true]∧y.id=id∧ps'.length=16∧Nd.Beyond ps' many.toNat∧(Nd.its ps).Perm (y :: Nd.its ps')∧L'=[var s ([Value.int .i64 many]++ps'.map Nd.sP) 210,bun (Nd.sI 66 ps')]):=by
 refine (sl_TakeRaw s many ps id hl hm0 hm hy).conv (Re.refl _) ?_
 rintro v L' ⟨k,g,y,rfl,hp,hid,hk,rfl⟩
 refine ⟨_,⟨y,_,rfl,hid,by simpa using hl,Nd.beyond_set hbe (by omega),(Nd.take_items (T:=66) hp).1,rfl⟩,Re.cons ?_⟩
 exact Nd.bun_less (Nd.take_items (T:=66) hp).2
theorem sl_AtNo (s:Nat) (many:Int) (ps:Nd.Pl) (k:Int) (hl:ps.length=16) (hm0:0≤many) (hm:many≤16) (hk0:0≤k) (hkm:k < many) (hk:ps[k.toNat]?=some none):Tri prog 117 #[.pointer (some ⟨s,0,none⟩),.int .i64 k] [var s ([Value.int .i64 many]++ps.map Nd.sP) 210,bun (Nd.sI 66 ps)] [] (fun v L'=>v=.tuple #[.agg #[.int .i64 Im.zero.id,.int .i64 Im.zero.level,.int .i64 Im.zero.from_,.int .i64 Im.zero.deadline,.int .i64 Im.zero.budget,.int .i64 Im.zero.since,.int .i64 Im.zero.seq],.bool false]∧L'=[]):=by
 refine Tri.en func117 H ntmps117 H fun w0=>J.co 2 H<|O.l (Lo.al Y66 H) H ?_
 rintro _ _ ⟨g1,rfl,rfl⟩
 refine O.oo 8 H<|O.kf 8 H (decide_eq_false (by omega))<|O.oo 2 H<|O.gy (Lo.ca call116 (sl_places s many ps) [] H H (.ro 0 H .nil)) H H ?_
 rintro _ _ ⟨_,⟨rfl,rfl⟩,rfl⟩
 refine O.oo 3 H<|O.kf 14 H (decide_eq_false (by omega))<|O.oo 4 H<|O.gz (Pu.qt (Pu.indexAddrG U208 Z207 H H (by omega) (by omega))) H H<|O.gz (Qt.ld H (Cel.roVar 0 H) (o:=0) (off:=1+(k).toNat) (by omega) (Cut.one isAgg207 (at_hd H hk))) H H<|O.gz (Pu.qt (Pu.nilEq N207 H)) H H<|O.oo 5 H<|O.p (Pu.build [] [.int .i64 0,.int .i64 0,.int .i64 0,.int .i64 0,.int .i64 0,.int .i64 0,.int .i64 0] #[(0,1),(1,1),(2,1),(3,1),(4,1),(5,1),(6,1)] U66 Y66 (places66 N66) H (by kernel_rfl)) H<|O.l0 (Lo.st 0 Z66 H H H H H H H) ?_
 rintro _ _ rfl
 refine O.oc 2 H ?_
 exact J.rn [_,_] [] H ⟨⟨_,_,0,0,_,H,(Cel.var 0 H),H,(Cut.agg [.int .i64 0,.int .i64 0,.int .i64 0,.int .i64 0,.int .i64 0,.int .i64 0,.int .i64 0] A66 Z66 H H)⟩,H,trivial⟩ H ⟨H,H⟩
theorem sl_At (s:Nat) (many:Int) (ps:Nd.Pl) (k:Int) (g:Nat) (y:Im) (hl:ps.length=16) (hm0:0≤many) (hm:many≤16) (hk0:0≤k) (hkm:k < many) (hk:ps[k.toNat]?=some (some (g,y))):Tri prog 117 #[.pointer (some ⟨s,0,none⟩),.int .i64 k] [var s ([Value.int .i64 many]++ps.map Nd.sP) 210,bun (Nd.sI 66 ps)] [] (fun v L'=>v=.tuple #[.agg #[.int .i64 y.id,.int .i64 y.level,.int .i64 y.from_,.int .i64 y.deadline,.int .i64 y.budget,.int .i64 y.since,.int .i64 y.seq],.bool true]∧L'=[]):=by
 refine Tri.en func117 H ntmps117 H fun w0=>J.co 2 H<|O.l (Lo.al Y66 H) H ?_
 rintro _ _ ⟨g1,rfl,rfl⟩
 refine O.oo 8 H<|O.kf 8 H (decide_eq_false (by omega))<|O.oo 2 H<|O.gy (Lo.ca call116 (sl_places s many ps) [] H H (.ro 0 H .nil)) H H ?_
 rintro _ _ ⟨_,⟨rfl,rfl⟩,rfl⟩
 refine O.oo 3 H<|O.kf 14 H (decide_eq_false (by omega))<|O.oo 4 H<|O.gz (Pu.qt (Pu.indexAddrG U208 Z207 H H (by omega) (by omega))) H H<|O.gz (Qt.ld H (Cel.roVar 0 H) (o:=0) (off:=1+(k).toNat) (by omega) (Cut.one isAgg207 (at_hd H hk))) H H<|O.gz (Pu.qt (Pu.someEq N207 H)) H H<|O.oo 10 H<|O.p (Pu.indexAddrG U208 Z207 H H (by omega) (by omega)) H<|O.q (Qt.ld H (Cel.roVar 0 H) (o:=0) (off:=1+(k).toNat) (by omega) (Cut.one isAgg207 (at_hd H hk))) H<|O.oo 1 H<|O.q (Qt.ld H (Cel.roBun 1 H (Nd.sI_mem hk)) (o:=0) (off:=0) H (Cut.agg [.int .i64 y.id,.int .i64 y.level,.int .i64 y.from_,.int .i64 y.deadline,.int .i64 y.budget,.int .i64 y.since,.int .i64 y.seq] A66 Z66 H H)) H<|O.l0 (Lo.st 0 Z66 H H H H H H H) ?_
 rintro _ _ rfl
 refine O.oc 2 H ?_
 exact J.rn [_,_] [] H ⟨⟨_,_,0,0,_,H,(Cel.var 0 H),H,(Cut.agg [.int .i64 y.id,.int .i64 y.level,.int .i64 y.from_,.int .i64 y.deadline,.int .i64 y.budget,.int .i64 y.since,.int .i64 y.seq] A66 Z66 H H)⟩,H,trivial⟩ H ⟨H,H⟩
theorem sl_All (s:Nat) (many:Int) (ps:Nd.Pl) (hl:ps.length=16) (hm0:0≤many) (hm:many≤16):Tri prog 41 #[.pointer (some ⟨s,0,none⟩)] [var s ([Value.int .i64 many]++ps.map Nd.sP) 210,bun (Nd.sI 66 ps)] [] (fun v L'=>L'=[row v 66 7 ((Nd.its (ps.take many.toNat)).map Im.cells)]):=by
 refine Tri.en func41 H ntmps41 H fun w0=>J.cc 10 H<|J.nr 66 7 (([]:List Im).map Im.cells) H<|J.co 2 H<|O.l (Lo.ca call116 (sl_places s many ps) [] H H (.ro 0 H .nil)) H ?_
 rintro _ _ ⟨_,⟨rfl,rfl⟩,rfl⟩
 refine O.oc 3 H ?_
 refine J.lo (X:=Nat×Value×List Im) (fun (k,W,ov)=>(k:Int)≤many∧ov=Nd.its (ps.take k)) (fun (k,W,ov)=>[(3,W),(9,.int .i64 (k:Int))]) (fun (k,W,ov)=>[row W 66 7 (ov.map Im.cells)]) (fun (k,W,ov)=>many.toNat-k) ⟨0,Value.slice none 0 0,([]:List Im)⟩ [0,2,8] [0] [] ⟨by omega,rfl⟩ ⟨H,(eqi (by omega)),trivial⟩ H H ?_
 rintro ⟨k,W,ov⟩ ⟨hk,hov⟩
 refine J.cc 5 H ?_
 refine J.cd H (fun p2=>?_) (fun p2=>?_)
 ·
  refine J.cc 9 H ?_
  rcases Nd.at_cases (ps:=ps) (k:=k) (by omega) with he3|⟨g4,y5,he3⟩
  ·
   refine J.co 3 H<|O.l (Lo.ca call117 (sl_AtNo s many ps (k:Int) hl hm0 hm (by omega) (by omega) he3) [] H H (.ro 0 H (.ro 1 H .nil))) H ?_
   rintro _ _ ⟨_,⟨rfl,rfl⟩,rfl⟩
   refine O.oo 3 H<|O.l (Lo.al Y66 H) H ?_
   rintro _ _ ⟨g7,rfl,rfl⟩
   refine O.l0 (Lo.st 0 Z66 H H H H H H H) ?_
   rintro _ _ rfl
   refine O.oo 10 H<|O.p (Pu.add' H H (by omega)) H<|O.oc 2 H ?_
   exact J.lq ⟨k+1,W,ov⟩ [0,2,8] [1] [] ⟨by omega,hov.trans (Nd.its_none he3).symm⟩ (by dsimp only;omega) ⟨H,(eqi (by omega)),trivial⟩ H H
  refine J.co 3 H<|O.l (Lo.ca call117 (sl_At s many ps (k:Int) g4 y5 hl hm0 hm (by omega) (by omega) he3) [] H H (.ro 0 H (.ro 1 H .nil))) H ?_
  rintro _ _ ⟨_,⟨rfl,rfl⟩,rfl⟩
  refine O.oo 3 H<|O.l (Lo.al Y66 H) H ?_
  rintro _ _ ⟨g9,rfl,rfl⟩
  refine O.l0 (Lo.st 0 Z66 H H H H H H H) ?_
  rintro _ _ rfl
  refine O.oo 9 H<|O.q (Qt.lva 0 A66 Z66 H H H) H<|O.l (Lo.bm Im.cells [y5] U52 Z66 Y66 H H H (by kernel_rfl) H H) H ?_
  rintro V10 _ rfl
  refine O.l (Lo.am 2 N52 info66 H H H H H (Src.row 0 H) Im.one (by first|omega|(simp only [List.length_append,List.length_cons,List.length_nil];omega)|(have h_:=Nd.its_len (ps:=ps) (k:=k);rw [hov];simp only [List.length_append,List.length_cons,List.length_nil];omega)) (by first|omega|(simp only [List.length_append,List.length_cons,List.length_nil];omega)|(have h_:=Nd.its_len (ps:=ps) (k:=k);rw [hov];simp only [List.length_append,List.length_cons,List.length_nil];omega))) H ?_
  rintro V11 _ rfl
  refine O.oo 4 H<|O.p (Pu.add' H H (by omega)) H<|O.oc 2 H ?_
  exact J.lq ⟨k+1,V11,ov++([y5])⟩ [0,2,8] [2] [] ⟨by omega,(by rw [hov];exact (Nd.its_some he3).symm)⟩ (by dsimp only;omega) ⟨H,(eqi (by omega)),trivial⟩ H H
 refine J.cc 6 H ?_
 exact J.r1 [0] H H H (by rw [hov,show k=many.toNat from by omega];rfl)
theorem sl_Free (s:Nat) (many:Int) (ps:Nd.Pl) (hl:ps.length=16) (hm0:0≤many) (hm:many≤16):Tri prog 183 #[.pointer (some ⟨s,0,none⟩)] [var s ([Value.int .i64 many]++ps.map Nd.sP) 210,bun (Nd.sI 66 ps)] [] (fun v L'=>v=.int .i64 (many-((Nd.its (ps.take many.toNat)).length:Int))∧L'=[]):=by
 refine Tri.en func183 H ntmps183 H fun w0=>J.co 7 H<|O.l (Lo.ca call116 (sl_places s many ps) [] H H (.ro 0 H .nil)) H ?_
 rintro _ _ ⟨_,⟨rfl,rfl⟩,rfl⟩
 refine O.oo 1 H<|O.l (Lo.ca call41 (sl_All s many ps hl hm0 hm) [] H H (.ro 0 H (.ro 1 H .nil))) H ?_
 rintro v2 _ ⟨_,rfl,rfl⟩
 refine O.q (Qt.lenM U52 H (Src.row 0 H)) H<|O.p (Pu.sub' H H (by first|omega|(have h_:=Nd.its_len (ps:=ps) (k:=many.toNat);omega))) H<|O.oc 2 H ?_
 exact J.r0 H H ⟨H,H⟩
theorem sl_Clear (s:Nat) (many:Int) (ps:Nd.Pl) (hl:ps.length=16):Tri prog 109 #[.pointer (some ⟨s,0,none⟩)] [] [var s ([Value.int .i64 many]++ps.map Nd.sP) 210] (fun v L'=>v=.tuple #[]∧L'=[var s ([Value.int .i64 many]++(List.replicate 16 none).map Nd.sP) 210]):=by
 refine Tri.en func109 H ntmps109 H fun w0=>J.co 3 H<|O.p (Pu.ptrNe underlying85 H) H<|O.oo 4 H<|O.p (Pu.buildA [] [Value.pointer none,Value.pointer none,Value.pointer none,Value.pointer none,Value.pointer none,Value.pointer none,Value.pointer none,Value.pointer none,Value.pointer none,Value.pointer none,Value.pointer none,Value.pointer none,Value.pointer none,Value.pointer none,Value.pointer none,Value.pointer none] U208 zeroValue208 Z207 H (by kernel_rfl)) H<|O.oo 2 H<|O.l0 (Lo.store 0 (vs:=List.replicate 16 (Nd.sP none)) ([Value.int .i64 many]++(List.replicate 16 none).map Nd.sP) H H H sizeOf208 H H H (set_all (f:=Nd.sP) (hd:=[Value.int .i64 many]) (n:=0+1) H hl) (by rw [Nat.ble_eq,List.length_append,List.length_map,hl];simp)) ?_
 rintro _ _ rfl
 refine O.nil ?_
 exact J.dn [] [0] H trivial H ⟨H,H⟩
theorem sl_New (many:Int) (hm0:1≤many) (hm:many≤16):Tri prog 55 #[.int .i64 many] [] [] (fun v L'=>∃ s,v=.tuple #[.pointer (some ⟨s,0,none⟩),.int .i64 0]∧L'=[var s ([Value.int .i64 many]++(List.replicate 16 none:Nd.Pl).map Nd.sP) 210]):=by
 refine Tri.en func55 H ntmps55 H fun w0=>J.co 11 H<|O.kf 6 H (decide_eq_false (by omega))<|O.oc 4 H<|J.condF H (decide_eq_false (by omega))<|J.co 4 H<|O.p (Pu.build [(0,.int .i64 many)] [.int .i64 many,Value.pointer none,Value.pointer none,Value.pointer none,Value.pointer none,Value.pointer none,Value.pointer none,Value.pointer none,Value.pointer none,Value.pointer none,Value.pointer none,Value.pointer none,Value.pointer none,Value.pointer none,Value.pointer none,Value.pointer none,Value.pointer none] #[(0,1),(1,16)] runUnderlying210 zeroValue210 (places210 underlying210) H (by kernel_rfl)) H<|O.l (Lo.bx H H) H ?_
 rintro _ _ ⟨g1,rfl,rfl⟩
 refine O.oc 3 H ?_
 exact J.rn [_,_] [0] H ⟨H,H,trivial⟩ H ⟨g1,H,H⟩
theorem se_Has (s b:Nat) (R:Value) (f n:Int) (ring:List Int) (m:List (Int×Int)) (id:Int):Tri prog 260 #[.pointer (some ⟨s,0,none⟩),.int .i64 id] [var s [R,.int .i64 f,.int .i64 n,.map (some b)] 180,mi b (Value.int .i64) m] [] (fun v L'=>v=.bool (getI m id).isSome∧L'=[]):=by
 refine Tri.en func260 H ntmps260 H fun w0=>J.co 8 H<|O.p (Pu.someEq underlying83 H) H<|O.oo 8 H<|O.q (Qt.lw 0 A178 H H H) H<|O.oo 1 H<|O.q (Qt.lkOk (V:=.int .i64 ((getI m id).getD 0)) (q:=(getI m id).isSome) N178 N3 Y3 H H (Mc.ro 1 b H H) (by cases (getI m id)<;>rfl) H) H<|O.oc 11 H ?_
 exact J.r0 H H ⟨H,H⟩
theorem se_place (s b:Nat) (R:Value) (f n:Int) (ring:List Int) (m:List (Int×Int)) (beh:Int) (hR:ring.length≤256) (hf0:0≤f) (hfl:f < ring.length∨ring.length=0∧f=0) (hn0:0≤n) (hnl:n≤ring.length) (hb0:0≤beh) (hb1:beh≤1000) (hp:0 < ring.length):Tri prog 122 #[.pointer (some ⟨s,0,none⟩),.int .i64 beh] [var s [R,.int .i64 f,.int .i64 n,.map (some b)] 180,rd R 1 (ring.map encZ)] [] (fun v L'=>∃ r:Int,v=.int .i64 r∧0≤r∧r < ring.length∧L'=[]):=by
 refine Tri.en func122 H ntmps122 H fun w0=>J.cc 5 H<|J.drawStill Tryz.mixed (by kernel_rfl)<|S.r 3 H<|S.q (Qt.lw 0 A3 H H H) H<|S.r 1 H<|S.p (Pu.add' H H (by omega)) H<|S.r 3 H<|S.q (Qt.lw 0 A60 H H H) H<|S.q (Qt.lenM U60 H (Src.ro 1 H)) H<|S.p (Pu.rem' H H (by omega) (by omega)) H<|S.r 1 H<|S.endJ ?_
 exact J.r0 H H ⟨(f+beh)%(ring.length:Int),H,Int.emod_nonneg _ (by omega),Int.emod_lt_of_pos _ (by omega),H⟩
theorem se_Clear (s b:Nat) (R:Value) (f n:Int) (ring:List Int) (m:List (Int×Int)):Tri prog 112 #[.pointer (some ⟨s,0,none⟩)] [] [var s [R,.int .i64 f,.int .i64 n,.map (some b)] 180,row R 3 1 (ring.map encZ),mi b (Value.int .i64) m] (fun v L'=>v=.tuple #[]∧L'=[var s [R,.int .i64 0,.int .i64 0,.map (some b)] 180,row R 3 1 (ring.map encZ),mi b (Value.int .i64) ([]:List (Int×Int))]):=by
 refine Tri.en func112 H ntmps112 H fun w0=>J.co 3 H<|O.p (Pu.ptrNe underlying83 H) H<|O.oo 8 H<|O.l0 (Lo.st 0 Z3 H H H H H H H) ?_
 rintro _ _ rfl
 refine O.oo 2 H<|O.l0 (Lo.st 0 Z3 H H H H H H H) ?_
 rintro _ _ rfl
 refine O.oo 5 H<|O.q (Qt.lv 0 A178 H H H) H<|O.l0 (Lo.mapClear 2 H N178 H H) ?_
 rintro _ _ rfl
 refine O.nil ?_
 exact J.dn [] [0,1,2] H trivial H ⟨H,H⟩
theorem se_New (w:Int) (hw0:0≤w) (hw:w≤256):Tri prog 53 #[.int .i64 w] [] [] (fun v L'=>∃ (s b:Nat) (R:Value) (ring:List Int),v=.tuple #[.pointer (some ⟨s,0,none⟩),.int .i64 0]∧(ring.length:Int)=w∧L'=[var s [R,.int .i64 0,.int .i64 0,.map (some b)] 180,row R 3 1 (ring.map encZ),mi b (Value.int .i64) ([]:List (Int×Int))]):=by
 refine Tri.en func53 H ntmps53 H fun w0=>J.co 11 H<|O.kf 6 H (decide_eq_false (by omega))<|O.oc 4 H<|J.condF H (decide_eq_false (by omega))<|J.co 4 H<|O.l (Lo.makeSliceN (z:=(0:Int)) (f:=encZ) (m:=w.toNat) (s:=1) (bytes:=8) U60 (fun w=>run_typeInfo w (by exact (info3).1)) (by exact (info3).2.2.2) Z3 Y3 H H (by omega) (by omega) (by decide) H H (by decide) H) H ?_
 rintro V1 _ rfl
 refine O.l (Lo.makeMapI (Value.int .i64)) H ?_
 rintro _ _ ⟨b2,rfl,rfl⟩
 refine O.one (Src.row 1 H) (fun hV3=>?_)
 refine O.p (Pu.build [(0,V1),(3,.map (some b2))] [V1,.int .i64 0,.int .i64 0,.map (some b2)] #[(0,1),(1,1),(2,1),(3,1)] runUnderlying180 zeroValue180 (places180 underlying180) H (by cases V1<;>first|(simp [Value.oneCell'] at hV3;done)|(kernel_rfl;done))) H<|O.l (Lo.bx H H) H ?_
 rintro _ _ ⟨g4,rfl,rfl⟩
 refine O.oc 3 H ?_
 exact J.rn [_,_] [0,2,1] H ⟨H,H,trivial⟩ H ⟨g4,b2,V1,_,H,(by simp;omega),H⟩
theorem se_Note (s b:Nat) (R:Value) (f n:Int) (ring:List Int) (m:List (Int×Int)) (id:Int) (hR:ring.length≤256) (hf0:0≤f) (hfl:f < ring.length∨ring.length=0∧f=0) (hn0:0≤n) (hnl:n≤ring.length):Tri prog 177 #[.pointer (some ⟨s,0,none⟩),.int .i64 id] [] [var s [R,.int .i64 f,.int .i64 n,.map (some b)] 180,row R 3 1 (ring.map encZ),mi b (Value.int .i64) m] (fun v L'=>∃ (q:Bool) (f' n':Int) (ring':List Int) (m':List (Int×Int)),v=.bool q∧(ring'.length=ring.length∧0≤f'∧(f' < ring.length∨ring.length=0∧f'=0)∧0≤n'∧n'≤ring.length)∧q=(!(getI m id).isSome)∧(∀ k,(getI m' k).isSome=true→k=id∨(getI m k).isSome=true)∧L'=[var s [R,.int .i64 f',.int .i64 n',.map (some b)] 180,row R 3 1 (ring'.map encZ),mi b (Value.int .i64) m']):=by
 refine Tri.en func177 H ntmps177 H fun w0=>J.co 9 H<|O.l (Lo.ca call260 (se_Has s b R f n ring m id) [] H H (.own 0 H H (.own 2 H H .nil))) H ?_
 rintro _ _ ⟨_,⟨rfl,rfl⟩,rfl⟩
 refine O.nil ?_
 refine J.cond H (fun h2=>?_) (fun h2=>?_)
 ·
  refine J.cc 4 H ?_
  exact J.r1 [0,1,2] H H H ⟨_,_,_,_,_,H,⟨(by first|rfl|simp only [List.length_set]),(by omega),(by omega),(by omega),(by omega)⟩,(by simp [*]),(fun k_ hk_=>by first|exact .inr hk_|(simp only [getI_putI,getI_delI] at hk_;(repeat' split at hk_)<;>first|(left;omega)|(right;exact hk_)|cases hk_)),H⟩
 refine J.co 5 H<|O.p (Pu.someEq underlying83 H) H<|O.oo 4 H<|O.gz (Qt.lv 0 A60 H H H) H H<|O.gz (Qt.lenM U60 H (Src.row 1 H)) H H<|O.oc 3 H ?_
 refine J.cd H (fun p3=>?_) (fun p3=>?_)
 ·
  refine J.cc 4 H ?_
  exact J.r1 [0,1,2] H H H ⟨_,_,_,_,_,H,⟨(by first|rfl|simp only [List.length_set]),(by omega),(by omega),(by omega),(by omega)⟩,(by simp [*]),(fun k_ hk_=>by first|exact .inr hk_|(simp only [getI_putI,getI_delI] at hk_;(repeat' split at hk_)<;>first|(left;omega)|(right;exact hk_)|cases hk_)),H⟩
 refine J.cc 3 H<|J.drawStill Tryz.mixed (by kernel_rfl)<|S.r 3 H<|S.q (Qt.lv 0 A3 H H H) H<|S.r 3 H<|S.q (Qt.lv 0 A60 H H H) H<|S.q (Qt.lenM U60 H (Src.row 1 H)) H<|S.r 1 H<|S.endJ ?_
 refine J.cd H (fun p4=>?_) (fun p4=>?_)
 ·
  refine J.seq<|J.drawTail 14 Tryz.mixed (by kernel_rfl)<|S.r 3 H<|S.q (Qt.lv 0 A178 H H H) H<|S.r 3 H<|S.q (Qt.lv 0 A60 H H H) H<|S.r 3 H<|S.q (Qt.lv 0 A3 H H H) H ?_
  obtain ⟨e5,he5⟩:=ex_at (l:=ring) (i:=(f).toNat) (by omega)
  refine S.q (Qt.ix U60 Z3 H (Src.row 1 H) he5 H (by omega)) H<|S.q (Qt.le A3 (Src.row 1 H) he5 0 H (by omega) H) H<|S.endO<|O.l0 (Lo.mapDel 2 H N178 N3 H H H) ?_
  rintro _ _ rfl
  refine O.oo 5 H<|O.l (Lo.ca call122 (se_place s b R f n ring ([]) 1 (by omega) (by omega) (by omega) (by omega) (by omega) (by omega) (by omega) (by omega)) [] H H (.own 0 H H (.of 1 row_rd H H .nil))) H ?_
  rintro _ _ ⟨_,⟨r6,rfl,h7,h8,rfl⟩,rfl⟩
  refine O.oo 2 H<|O.l0 (Lo.st 0 Z3 H H H H H H H) ?_
  rintro _ _ rfl
  refine O.oo 5 H<|O.q (Qt.lv 0 A3 H H H) H<|O.p (Pu.sub' H H (by omega)) H<|O.oo 2 H<|O.l0 (Lo.st 0 Z3 H H H H H H H) ?_
  rintro _ _ rfl
  refine O.oo 7 H<|O.q (Qt.lv 0 A3 H H H) H<|O.l (Lo.ca call122 (se_place s b R r6 (n-1) ring ([]) (n-1) (by omega) (by omega) (by omega) (by omega) (by omega) (by omega) (by omega) (by omega)) [] H H (.own 0 H H (.of 1 row_rd H H .nil))) H ?_
  rintro _ _ ⟨_,⟨r10,rfl,h11,h12,rfl⟩,rfl⟩
  refine O.oc 3 H<|J.dm [(0,false),(1,false),(2,false),(3,false),(4,false),(5,false),(6,false),(7,false),(8,false),(9,false),(10,false),(11,false),(12,false),(13,true),(14,true),(15,false),(16,true)] [0,1] Tryz.mixed (by kernel_rfl) H<|Mx.r 3 H<|Mx.q H (Qt.lv 0 A60 H H H) H<|Mx.r 4 H<|Mx.q H (Qt.lv 0 A178 H H H) H<|Mx.r 3 H ?_
  obtain ⟨e14,he14⟩:=ex_at (l:=ring) (i:=(r10).toNat) (by omega)
  refine Mx.q H (Qt.ix U60 Z3 H (Src.row 1 H) he14 H (by omega)) H<|Mx.l0 H (Lo.storeM 1 (j:=(r10).toNat) (off:=0) (vs:=[.int .i64 id]) (e:=[.int .i64 e14]) id H H H H (by omega) he14 H Z3 H H H H H) ?_
  rintro _ _ rfl
  refine MxK.al [0,1] H (by kernel_rfl)<|Mx.l H (Lo.mapEnt 2 N178 N3 Y3 H H H) H ?_
  rintro _ _ ⟨u16,x17,rfl,rfl⟩
  refine MxK.al [0,1] H (by kernel_rfl)<|Mx.r 1 H<|Mx.l0 H (Lo.entSt (u:=r10) 2 H H H H) ?_
  rintro _ _ rfl
  refine MxK.al [0,1] H (by kernel_rfl)<|Mx.nil<|J.co 5 H<|O.q (Qt.lv 0 A3 H H H) H<|O.p (Pu.add' H H (by omega)) H<|O.oo 2 H<|O.l0 (Lo.st 0 Z3 H H H H H H H) ?_
  rintro _ _ rfl
  refine O.oc 5 H ?_
  exact J.r1 [0,1,2] H H H ⟨_,_,_,_,_,H,⟨(by first|rfl|simp only [List.length_set]),(by omega),(by omega),(by omega),(by omega)⟩,(by simp [*]),(fun k_ hk_=>by first|exact .inr hk_|(simp only [getI_putI,getI_delI] at hk_;(repeat' split at hk_)<;>first|(left;omega)|(right;exact hk_)|cases hk_)),H⟩
 refine J.co 7 H<|O.q (Qt.lv 0 A3 H H H) H<|O.l (Lo.ca call122 (se_place s b R f n ring ([]) n (by omega) (by omega) (by omega) (by omega) (by omega) (by omega) (by omega) (by omega)) [] H H (.own 0 H H (.of 1 row_rd H H .nil))) H ?_
 rintro _ _ ⟨_,⟨r18,rfl,h19,h20,rfl⟩,rfl⟩
 refine O.oc 3 H<|J.dm [(0,false),(1,false),(2,false),(3,false),(4,false),(5,false),(6,false),(7,false),(8,false),(9,false),(10,false),(11,false),(12,false),(13,true),(14,true),(15,false),(16,true)] [0,1] Tryz.mixed (by kernel_rfl) H<|Mx.r 3 H<|Mx.q H (Qt.lv 0 A60 H H H) H<|Mx.r 4 H<|Mx.q H (Qt.lv 0 A178 H H H) H<|Mx.r 3 H ?_
 obtain ⟨e22,he22⟩:=ex_at (l:=ring) (i:=(r18).toNat) (by omega)
 refine Mx.q H (Qt.ix U60 Z3 H (Src.row 1 H) he22 H (by omega)) H<|Mx.l0 H (Lo.storeM 1 (j:=(r18).toNat) (off:=0) (vs:=[.int .i64 id]) (e:=[.int .i64 e22]) id H H H H (by omega) he22 H Z3 H H H H H) ?_
 rintro _ _ rfl
 refine MxK.al [0,1] H (by kernel_rfl)<|Mx.l H (Lo.mapEnt 2 N178 N3 Y3 H H H) H ?_
 rintro _ _ ⟨u24,x25,rfl,rfl⟩
 refine MxK.al [0,1] H (by kernel_rfl)<|Mx.r 1 H<|Mx.l0 H (Lo.entSt (u:=r18) 2 H H H H) ?_
 rintro _ _ rfl
 refine MxK.al [0,1] H (by kernel_rfl)<|Mx.nil<|J.co 5 H<|O.q (Qt.lv 0 A3 H H H) H<|O.p (Pu.add' H H (by omega)) H<|O.oo 2 H<|O.l0 (Lo.st 0 Z3 H H H H H H H) ?_
 rintro _ _ rfl
 refine O.oc 5 H ?_
 exact J.r1 [0,1,2] H H H ⟨_,_,_,_,_,H,⟨(by first|rfl|simp only [List.length_set]),(by omega),(by omega),(by omega),(by omega)⟩,(by simp [*]),(fun k_ hk_=>by first|exact .inr hk_|(simp only [getI_putI,getI_delI] at hk_;(repeat' split at hk_)<;>first|(left;omega)|(right;exact hk_)|cases hk_)),H⟩
end Go.Proofs.YtohjlkjhpibkmaaGreatDoor
