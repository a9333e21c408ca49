/-
  Walks, printed by a program of mine.
-/
import Derived.KernelRfl
import Derived.Test.YtohjlkjhpibkmaaGreatDoorD22
import Derived.Test.YtohjlkjhpibkmaaGreatDoorD16
import Derived.Test.YtohjlkjhpibkmaaGreatDoorShelf
import Derived.Test.YtohjlkjhpibkmaaGreatDoorD04
import Derived.Test.YtohjlkjhpibkmaaGreatDoorD19
set_option linter.unusedSimpArgs false
set_option linter.unusedVariables false
namespace Go.Proofs.YtohjlkjhpibkmaaGreatDoor
open Go Go.LK Go.Proofs.Tryz
set_option maxRecDepth 100000
set_option maxHeartbeats 4000000
theorem flat_encZ (l:List Int):(l.map encZ).flatten=l.map (Value.int .i64):=by
  induction l with
  | nil=>rfl
  | cons x l ih=>simp only [List.map_cons,List.flatten_cons,ih];rfl
theorem row_sorted {w:World} {g cap n:Nat} {e:TypeId} {os:Array Obj} {cur:Array Value} {zs ts us:List Int} (hl:ts.length=zs.length) (hu:us=ts.take us.length) (hg:w.heap[g]?=some (.cells cur e (0,0))) (h1:zs.length≤cap) (h2:cap≤maxLen) (h3:cur.size=cap*1) :
    (row (.slice (some ⟨g,0,none⟩) us.length cap) e 1 (us.map encZ)).holds (Go.Sort.grow (Go.Sort.putRow (Value.int .i64) (Go.Sort.ahead w n) g 0 ts.toArray) os):=by
  have hus:us.length≤ts.length:=by rw [hu,List.length_take];omega
  refine ⟨⟨by rw [flat_encZ];simp,.inr ⟨g,cap,_,by rw [List.length_map],Nat.zero_le _,heap_sortedI _ hg,by rw [List.length_map];omega,h2,by simp [Go.Sort.putCells,h3],?_⟩⟩,fun x hx=>?_⟩
  · rw [flat_encZ,List.length_map,Nat.mul_one]
    have ht:=take_putCellsI cur ts (by omega)
    have:=congrArg (List.take us.length) ht
    rw [List.take_take,Nat.min_eq_left hus,←List.map_take,←hu] at this
    exact this
  · obtain ⟨y,_,rfl⟩:=List.mem_map.1 hx;rfl
theorem sorted_st {w:World} {M:List Nat} {g n:Nat} {os:Array Obj} {d:Array Int} {A:Sp} (hM:M=[g]) (hA:A.foot=[g]) (hh:A.holds (Go.Sort.grow (Go.Sort.putRow (Value.int .i64) (Go.Sort.ahead w n) g 0 d) os)):St w M [A] (Go.Sort.grow (Go.Sort.putRow (Value.int .i64) (Go.Sort.ahead w n) g 0 d) os):=by
 subst hM
 have hb:=grownBy_sortedI (w:=w) (g:=g) (n:=n) (os:=os) d
 refine ⟨⟨hb.os,hb.tape,hb.output,hb.size,fun k hk hn=>hb.block k hk fun he=>hn (by simp at he;simp [he])⟩,by simpa using hh,by simp,fun k hk=>.inr ?_⟩
 rw [feet_cons,hA] at hk
 simpa using hk
theorem s_Sort (V:Value) (zs:List Int) (hl:zs.length≤1000000):Tri prog 274 #[V] [] [row V 3 1 (zs.map encZ)] (fun v L'=>v=.tuple #[]∧L'=[row V 3 1 ((zs.mergeSort (fun x y=>decide (x≤y))).map encZ)]):=fun w _ hst=>by
  obtain ⟨ho,_⟩:=hst.at_ _ (List.mem_singleton_self _)
  rcases ho.2 with ⟨rfl,hn⟩|⟨g,cap,cur,rfl,_,hg,hnc,hcm,hcs,htake⟩
  · have:zs=[]:=by simpa using hn
    subst this
    exact (slices_Sort_int_none none 0 w).mono fun e w' ⟨he,hw⟩=>⟨_,_,he,⟨rfl,rfl⟩,by subst hw;simpa using hst⟩
  · rw [List.length_map] at hnc htake
    rw [flat_encZ,Nat.mul_one] at htake
    have hb:g < w.heap.size:=(Array.getElem?_eq_some_iff.1 hg).1
    rw [List.length_map] at hst ⊢
    refine (slices_Sort_int g 0 cap zs w (holds_of_blockI hg htake) hb (by omega)).mono fun e w' ⟨he,n,os,hw⟩=>⟨_,_,he,⟨rfl,rfl⟩,?_⟩
    subst hw
    have hs:=row_sorted (us:=zs.mergeSort (fun x y=>decide (x≤y))) (ts:=zs.mergeSort (fun x y=>decide (x≤y))) (n:=n) (os:=os) (List.length_mergeSort zs) (by rw [List.take_length]) hg hnc hcm hcs
    rw [List.length_mergeSort] at hs
    exact sorted_st rfl rfl hs
theorem s_Compact (V:Value) (zs:List Int) (hl:zs.length≤1000000):Tri prog 278 #[V] [] [row V 3 1 (zs.map encZ)] (fun v L'=>L'=[row v 3 1 ((Go.Lib.compact zs).map encZ)]):=fun w _ hst=>by
  obtain ⟨ho,_⟩:=hst.at_ _ (List.mem_singleton_self _)
  rcases ho.2 with ⟨rfl,hn⟩|⟨g,cap,cur,rfl,_,hg,hnc,hcm,hcs,htake⟩
  · have:zs=[]:=by simpa using hn
    subst this
    exact (slices_Compact_int_empty none 0 w).mono fun e w' ⟨he,hw⟩=>⟨_,_,he,rfl,by subst hw;simpa [Go.Lib.compact,Go.Lib.compactUpTo] using hst⟩
  · rw [List.length_map] at hnc htake
    rw [flat_encZ,Nat.mul_one] at htake
    rw [List.length_map] at hst ⊢
    refine (slices_Compact_int g 0 cap zs w (holds_of_blockI hg htake) (by omega) hnc).mono fun e w' ⟨he,n,hw⟩=>⟨_,_,he,rfl,?_⟩
    subst hw
    have hle:=Go.Lib.compact_length_le zs
    have hs:=row_sorted (us:=Go.Lib.compact zs) (ts:=Go.Lib.compact zs++List.replicate (zs.length-(Go.Lib.compact zs).length) 0) (n:=n) (os:=#[]) (zs:=zs) (by simp;omega) (by rw [List.take_left]) hg hnc hcm hcs
    rw [Go.Sort.grow_empty] at hs
    have h2:=sorted_st (w:=w) (os:=#[]) (n:=n) (d:=(Go.Lib.compact zs++List.replicate (zs.length-(Go.Lib.compact zs).length) 0).toArray) (M:=[g]) (g:=g) (A:=row (.slice (some ⟨g,0,none⟩) (Go.Lib.compact zs).length cap) 3 1 ((Go.Lib.compact zs).map encZ)) rfl rfl (by rw [Go.Sort.grow_empty];exact hs)
    rw [Go.Sort.grow_empty] at h2
    exact h2
theorem jb_over (code:Int):Tri prog 281 #[.int .i64 code] [] [] (fun v L'=>v=.tuple #[.agg #[.int .i64 0,.int .i64 0,.int .i64 0,.int .i64 0,.int .i64 0,.int .i64 0,.int .i64 0,.int .i64 0,Value.slice none 0 0],.int .i64 code]∧L'=[]):=by
 refine Tri.en func281 H ntmps281 H fun w0=>J.co 2 H<|O.l (Lo.al Y68 H) H ?_
 rintro _ _ ⟨g1,rfl,rfl⟩
 refine O.oo 4 H<|O.p (Pu.build [] [.int .i64 0,.int .i64 0,.int .i64 0,.int .i64 0,.int .i64 0,.int .i64 0,.int .i64 0,.int .i64 0,Value.slice none 0 0] #[(0,7),(7,1),(8,1)] U68 Y68 (places68 underlying68) H (by kernel_rfl)) H<|O.oo 1 H<|O.l0 (Lo.st 0 Z68 H H H H H H H) ?_
 rintro _ _ rfl
 refine O.oc 2 H ?_
 exact J.rn [_,_] [] H ⟨⟨_,_,0,0,_,H,(Cel.var 0 H),H,(Cut.agg [.int .i64 0,.int .i64 0,.int .i64 0,.int .i64 0,.int .i64 0,.int .i64 0,.int .i64 0,.int .i64 0,Value.slice none 0 0] A68 Z68 H H)⟩,H,trivial⟩ H ⟨H,H⟩
theorem jb_wait (x0 x1 x2 x3 x4 x5 x6:Int) (ph:Int) (qv nv:Value) (l:List Int) (hq:Value.oneCell' qv=true) (hne:l≠[]):Tri prog 277 #[.agg #[.int .i64 x0,.int .i64 x1,.int .i64 x2,.int .i64 x3,.int .i64 x4,.int .i64 x5,.int .i64 x6,.int .i64 ph,qv],nv] [] [row nv 3 1 (l.map encZ)] (fun v L'=>v=.tuple #[.agg #[.int .i64 x0,.int .i64 x1,.int .i64 x2,.int .i64 x3,.int .i64 x4,.int .i64 x5,.int .i64 x6,.int .i64 2,nv],.int .i64 0]∧L'=[row nv 3 1 (l.map encZ)]):=by
 refine Tri.en func277 H ntmps277 H fun w0=>J.co 2 H<|O.l (Lo.bx H H) H ?_
 rintro _ _ ⟨g1,rfl,rfl⟩
 refine O.l (Lo.al Y68 H) H ?_
 rintro _ _ ⟨g2,rfl,rfl⟩
 refine O.oo 6 H<|O.q (Qt.lenM U60 H (Src.row 2 H)) H<|O.oc 2 H<|J.condF H (decide_eq_false (by have h_:=List.length_pos_iff.2 hne;omega))<|J.co 5 H<|O.q (Qt.lva 1 A66 Z66 H H H) H<|O.oo 1 H ?_
 refine O.one (Src.row 2 H) (fun hV3=>?_)
 refine O.p (Pu.build [(0,.agg #[.int .i64 x0,.int .i64 x1,.int .i64 x2,.int .i64 x3,.int .i64 x4,.int .i64 x5,.int .i64 x6]),(1,.int .i64 2),(2,nv)] [.int .i64 x0,.int .i64 x1,.int .i64 x2,.int .i64 x3,.int .i64 x4,.int .i64 x5,.int .i64 x6,.int .i64 2,nv] #[(0,7),(7,1),(8,1)] U68 Y68 (places68 underlying68) H (by cases nv<;>first|(simp [Value.oneCell'] at hV3;done)|(kernel_rfl;done))) H<|O.l0 (Lo.st 0 Z68 H H H H H (by simp only [List.all_cons,List.all_nil,Bool.and_true,hV3]<;>rfl) H) ?_
 rintro _ _ rfl
 refine O.oc 2 H ?_
 exact J.rn [_,_] [2] H ⟨⟨_,_,0,0,_,H,(Cel.var 0 H),H,(Cut.agg [.int .i64 x0,.int .i64 x1,.int .i64 x2,.int .i64 x3,.int .i64 x4,.int .i64 x5,.int .i64 x6,.int .i64 2,nv] A68 Z68 H H)⟩,H,trivial⟩ H ⟨H,H⟩
theorem jb_waitE (x0 x1 x2 x3 x4 x5 x6:Int) (ph:Int) (qv nv:Value) (hq:Value.oneCell' qv=true):Tri prog 277 #[.agg #[.int .i64 x0,.int .i64 x1,.int .i64 x2,.int .i64 x3,.int .i64 x4,.int .i64 x5,.int .i64 x6,.int .i64 ph,qv],nv] [] [row nv 3 1 (([]:List Int).map encZ)] (fun v L'=>v=.tuple #[.agg #[.int .i64 0,.int .i64 0,.int .i64 0,.int .i64 0,.int .i64 0,.int .i64 0,.int .i64 0,.int .i64 0,Value.slice none 0 0],.int .i64 1]∧L'=[]):=by
 refine Tri.en func277 H ntmps277 H fun w0=>J.co 2 H<|O.l (Lo.bx H H) H ?_
 rintro _ _ ⟨g1,rfl,rfl⟩
 refine O.l (Lo.al Y68 H) H ?_
 rintro _ _ ⟨g2,rfl,rfl⟩
 refine O.oo 6 H<|O.q (Qt.lenM U60 H (Src.row 2 H)) H<|O.oo 5 H<|O.l (Lo.ca call281 (jb_over 1) [] H H .nil) H ?_
 rintro _ _ ⟨_,⟨rfl,rfl⟩,rfl⟩
 refine O.oo 2 H<|O.l0 (Lo.st 0 Z68 H H H H H H H) ?_
 rintro _ _ rfl
 refine O.oc 2 H ?_
 exact J.rn [_,_] [] H ⟨⟨_,_,0,0,_,H,(Cel.var 0 H),H,(Cut.agg [.int .i64 0,.int .i64 0,.int .i64 0,.int .i64 0,.int .i64 0,.int .i64 0,.int .i64 0,.int .i64 0,Value.slice none 0 0] A68 Z68 H H)⟩,H,trivial⟩ H ⟨H,H⟩
theorem jb_done1 (gj gl:Nat) (x0 x1 x2 x3 x4 x5 x6:Int) (ph:Int) (qv V:Value) (l:List Int) (hq:Value.oneCell' qv=true) (hl:l.length≤1000) (hne:l≠[]):Tri prog 276 #[.pointer (some ⟨gj,0,none⟩),.pointer (some ⟨gl,0,none⟩)] [] [var gj [.int .i64 x0,.int .i64 x1,.int .i64 x2,.int .i64 x3,.int .i64 x4,.int .i64 x5,.int .i64 x6,.int .i64 ph,qv] 68,var gl [V] 60,row V 3 1 ((l.mergeSort (fun x y=>decide (x≤y))).map encZ)] (fun v L'=>∃ V',v=.tuple #[.agg #[.int .i64 x0,.int .i64 x1,.int .i64 x2,.int .i64 x3,.int .i64 x4,.int .i64 x5,.int .i64 x6,.int .i64 2,V'],.int .i64 0]∧L'=[row V' 3 1 ((Jb.rising l).map encZ)]):=by
 refine Tri.en func276 H ntmps276 H fun w0=>J.co 2 H<|O.l (Lo.al Y68 H) H ?_
 rintro _ _ ⟨g1,rfl,rfl⟩
 refine O.oc 3 H<|J.dm [(0,false),(1,false),(2,false),(3,true),(4,true),(5,false),(6,false),(7,true),(8,false)] [1,2] Tryz.mixed (by kernel_rfl) H<|Mx.q H (Qt.lva 0 A68 Z68 H H H) H<|Mx.p H (Pu.build [(0,.agg #[.int .i64 x0,.int .i64 x1,.int .i64 x2,.int .i64 x3,.int .i64 x4,.int .i64 x5,.int .i64 x6,.int .i64 ph,qv])] [.int .i64 x0,.int .i64 x1,.int .i64 x2,.int .i64 x3,.int .i64 x4,.int .i64 x5,.int .i64 x6,.int .i64 ph,qv] #[(0,9)] U345 Y345 (places345 N345) H (by cases qv<;>first|(simp [Value.oneCell'] at hq;done)|(kernel_rfl;done))) H<|Mx.q H (Qt.lv 1 A60 H H H) H<|Mx.l H (Lo.ca call278 (s_Compact V (l.mergeSort (fun x y=>decide (x≤y))) (by first|omega|(rw [List.length_mergeSort];omega)|(have h_:=Jb.rising_len (l:=l);omega))) [3] H H .nil) H ?_
 rintro v2 _ ⟨_,rfl,rfl⟩
 refine MxK.gp [2,3] [0,1] H H<|Mx.l H (Lo.ca call277 (jb_wait x0 x1 x2 x3 x4 x5 x6 ph qv v2 (Go.Lib.compact (l.mergeSort (fun x y=>decide (x≤y)))) hq (by rw [Jb.compact_sort];exact fun h_=>hne (Jb.rising_nil.1 h_))) [0] H H .nil) H ?_
 rintro _ _ ⟨_,⟨rfl,rfl⟩,rfl⟩
 refine MxK.al [2,3] H (by kernel_rfl)<|Mx.r 2 H ?_
 refine Mx.one H (fun _ h=>by cases h<;>rfl) (Src.row 0 H) (fun hV4=>?_)
 refine Mx.l0 H (Lo.st 1 Z68 H H H H H (by simp only [List.all_cons,List.all_nil,Bool.and_true,hV4]<;>rfl) H) ?_
 rintro _ _ rfl
 refine MxK.al [2,3] H (by kernel_rfl)<|Mx.r 1 H<|Mx.nil ?_
 exact J.rn [_,_] [0] H ⟨⟨_,_,0,0,_,H,(Cel.var 1 H),H,(Cut.agg [.int .i64 x0,.int .i64 x1,.int .i64 x2,.int .i64 x3,.int .i64 x4,.int .i64 x5,.int .i64 x6,.int .i64 2,v2] A68 Z68 H H)⟩,H,trivial⟩ H ⟨v2,H,(by rw [Jb.compact_sort])⟩
theorem jb_done1E (gj gl:Nat) (x0 x1 x2 x3 x4 x5 x6:Int) (ph:Int) (qv V:Value) (hq:Value.oneCell' qv=true):Tri prog 276 #[.pointer (some ⟨gj,0,none⟩),.pointer (some ⟨gl,0,none⟩)] [] [var gj [.int .i64 x0,.int .i64 x1,.int .i64 x2,.int .i64 x3,.int .i64 x4,.int .i64 x5,.int .i64 x6,.int .i64 ph,qv] 68,var gl [V] 60,row V 3 1 ((([]:List Int).mergeSort (fun x y=>decide (x≤y))).map encZ)] (fun v L'=>v=.tuple #[.agg #[.int .i64 0,.int .i64 0,.int .i64 0,.int .i64 0,.int .i64 0,.int .i64 0,.int .i64 0,.int .i64 0,Value.slice none 0 0],.int .i64 1]∧L'=[]):=by
 refine Tri.en func276 H ntmps276 H fun w0=>J.co 2 H<|O.l (Lo.al Y68 H) H ?_
 rintro _ _ ⟨g1,rfl,rfl⟩
 refine O.oc 3 H<|J.dm [(0,false),(1,false),(2,false),(3,true),(4,true),(5,false),(6,false),(7,true),(8,false)] [1,2] Tryz.mixed (by kernel_rfl) H<|Mx.q H (Qt.lva 0 A68 Z68 H H H) H<|Mx.p H (Pu.build [(0,.agg #[.int .i64 x0,.int .i64 x1,.int .i64 x2,.int .i64 x3,.int .i64 x4,.int .i64 x5,.int .i64 x6,.int .i64 ph,qv])] [.int .i64 x0,.int .i64 x1,.int .i64 x2,.int .i64 x3,.int .i64 x4,.int .i64 x5,.int .i64 x6,.int .i64 ph,qv] #[(0,9)] U345 Y345 (places345 N345) H (by cases qv<;>first|(simp [Value.oneCell'] at hq;done)|(kernel_rfl;done))) H<|Mx.q H (Qt.lv 1 A60 H H H) H<|Mx.l H (Lo.ca call278 (s_Compact V (([]:List Int).mergeSort (fun x y=>decide (x≤y))) (by (rw [List.length_mergeSort];decide))) [3] H H .nil) H ?_
 rintro v2 _ ⟨_,rfl,rfl⟩
 refine MxK.gp [2,3] [0,1] H H<|Mx.l H (Lo.ca call277 (cast (congrArg (fun z=>Tri prog 277 #[.agg #[.int .i64 x0,.int .i64 x1,.int .i64 x2,.int .i64 x3,.int .i64 x4,.int .i64 x5,.int .i64 x6,.int .i64 ph,qv],v2] [] [row v2 3 1 (z.map encZ)] _) ((Jb.compact_sort []).symm:([]:List Int)=Go.Lib.compact (([]:List Int).mergeSort (fun x y=>decide (x≤y))))) (jb_waitE x0 x1 x2 x3 x4 x5 x6 ph qv v2 hq)) [0] H H .nil) H ?_
 rintro _ _ ⟨_,⟨rfl,rfl⟩,rfl⟩
 refine MxK.al [1,2] H (by kernel_rfl)<|Mx.r 2 H<|Mx.l0 H (Lo.st 0 Z68 H H H H H H H) ?_
 rintro _ _ rfl
 refine MxK.al [1,2] H (by kernel_rfl)<|Mx.r 1 H<|Mx.nil ?_
 exact J.rn [_,_] [] H ⟨⟨_,_,0,0,_,H,(Cel.var 0 H),H,(Cut.agg [.int .i64 0,.int .i64 0,.int .i64 0,.int .i64 0,.int .i64 0,.int .i64 0,.int .i64 0,.int .i64 0,Value.slice none 0 0] A68 Z68 H H)⟩,H,trivial⟩ H ⟨H,H⟩
theorem jb_worksNe (gj gl:Nat) (x0 x1 x2 x3 x4 x5 x6:Int) (qv V:Value) (l:List Int) (hq:Value.oneCell' qv=true) (hl:l.length≤1000) (hne:l≠[]):Tri prog 275 #[.agg #[.int .i64 x0,.int .i64 x1,.int .i64 x2,.int .i64 x3,.int .i64 x4,.int .i64 x5,.int .i64 x6,.int .i64 1,qv],.func (.func 276) #[] #[.pointer (some ⟨gj,0,none⟩),.pointer (some ⟨gl,0,none⟩)]] [] [var gj [.int .i64 x0,.int .i64 x1,.int .i64 x2,.int .i64 x3,.int .i64 x4,.int .i64 x5,.int .i64 x6,.int .i64 1,qv] 68,var gl [V] 60,row V 3 1 ((l.mergeSort (fun x y=>decide (x≤y))).map encZ)] (fun v L'=>∃ V',v=.tuple #[.agg #[.int .i64 x0,.int .i64 x1,.int .i64 x2,.int .i64 x3,.int .i64 x4,.int .i64 x5,.int .i64 x6,.int .i64 2,V'],.int .i64 0,.int .i64 0]∧L'=[row V' 3 1 ((Jb.rising l).map encZ)]):=by
 refine Tri.en func275 H ntmps275 H fun w0=>J.co 2 H<|O.l (Lo.bx H H) H ?_
 rintro _ _ ⟨g1,rfl,rfl⟩
 refine O.l (Lo.al Y68 H) H ?_
 rintro _ _ ⟨g2,rfl,rfl⟩
 refine O.oo 7 H<|O.q (Qt.lv 1 A3 H H H) H<|O.oo 7 H<|O.l (Lo.cv call276 H H (jb_done1 gj gl x0 x1 x2 x3 x4 x5 x6 1 qv V l hq (by omega) hne) [2,3,4] H .nil) H ?_
 rintro _ _ ⟨_,⟨V3,rfl,rfl⟩,rfl⟩
 refine O.oo 3 H<|O.l (Lo.al Y68 H) H ?_
 rintro _ _ ⟨g5,rfl,rfl⟩
 refine O.one (Src.row 1 H) (fun hV6=>?_)
 refine O.l0 (Lo.st 0 Z68 H H H H H (by simp only [List.all_cons,List.all_nil,Bool.and_true,hV6]<;>rfl) H) ?_
 rintro _ _ rfl
 refine O.oo 4 H<|O.q (Qt.lva 0 A68 Z68 H H H) H<|O.oo 1 H<|O.l0 (Lo.st 2 Z68 H H H H H (by simp only [List.all_cons,List.all_nil,Bool.and_true,hV6]<;>rfl) H) ?_
 rintro _ _ rfl
 refine O.oc 3 H ?_
 exact J.rn [_,_,_] [1] H ⟨⟨_,_,0,0,_,H,(Cel.var 2 H),H,(Cut.agg [.int .i64 x0,.int .i64 x1,.int .i64 x2,.int .i64 x3,.int .i64 x4,.int .i64 x5,.int .i64 x6,.int .i64 2,V3] A68 Z68 H H)⟩,H,H,trivial⟩ H ⟨V3,H,H⟩
theorem jb_worksE (gj gl:Nat) (x0 x1 x2 x3 x4 x5 x6:Int) (qv V:Value) (hq:Value.oneCell' qv=true):Tri prog 275 #[.agg #[.int .i64 x0,.int .i64 x1,.int .i64 x2,.int .i64 x3,.int .i64 x4,.int .i64 x5,.int .i64 x6,.int .i64 1,qv],.func (.func 276) #[] #[.pointer (some ⟨gj,0,none⟩),.pointer (some ⟨gl,0,none⟩)]] [] [var gj [.int .i64 x0,.int .i64 x1,.int .i64 x2,.int .i64 x3,.int .i64 x4,.int .i64 x5,.int .i64 x6,.int .i64 1,qv] 68,var gl [V] 60,row V 3 1 ((([]:List Int).mergeSort (fun x y=>decide (x≤y))).map encZ)] (fun v L'=>v=.tuple #[.agg #[.int .i64 0,.int .i64 0,.int .i64 0,.int .i64 0,.int .i64 0,.int .i64 0,.int .i64 0,.int .i64 0,Value.slice none 0 0],.int .i64 1,.int .i64 0]∧L'=[]):=by
 refine Tri.en func275 H ntmps275 H fun w0=>J.co 2 H<|O.l (Lo.bx H H) H ?_
 rintro _ _ ⟨g1,rfl,rfl⟩
 refine O.l (Lo.al Y68 H) H ?_
 rintro _ _ ⟨g2,rfl,rfl⟩
 refine O.oo 7 H<|O.q (Qt.lv 1 A3 H H H) H<|O.oo 7 H<|O.l (Lo.cv call276 H H (jb_done1E gj gl x0 x1 x2 x3 x4 x5 x6 1 qv V hq) [2,3,4] H .nil) H ?_
 rintro _ _ ⟨_,⟨rfl,rfl⟩,rfl⟩
 refine O.oo 3 H<|O.l (Lo.al Y68 H) H ?_
 rintro _ _ ⟨g4,rfl,rfl⟩
 refine O.l0 (Lo.st 0 Z68 H H H H H H H) ?_
 rintro _ _ rfl
 refine O.oo 4 H<|O.q (Qt.lva 0 A68 Z68 H H H) H<|O.oo 1 H<|O.l0 (Lo.st 1 Z68 H H H H H H H) ?_
 rintro _ _ rfl
 refine O.oc 3 H ?_
 exact J.rn [_,_,_] [] H ⟨⟨_,_,0,0,_,H,(Cel.var 1 H),H,(Cut.agg [.int .i64 0,.int .i64 0,.int .i64 0,.int .i64 0,.int .i64 0,.int .i64 0,.int .i64 0,.int .i64 0,Value.slice none 0 0] A68 Z68 H H)⟩,H,H,trivial⟩ H ⟨H,H⟩
theorem jb_breaks (x0 x1 x2 x3 x4 x5 x6:Int) (ph:Int) (qv:Value) (hq:Value.oneCell' qv=true):Tri prog 279 #[.agg #[.int .i64 x0,.int .i64 x1,.int .i64 x2,.int .i64 x3,.int .i64 x4,.int .i64 x5,.int .i64 x6,.int .i64 ph,qv]] [] [] (fun v L'=>v=.tuple #[.agg #[.int .i64 0,.int .i64 0,.int .i64 0,.int .i64 0,.int .i64 0,.int .i64 0,.int .i64 0,.int .i64 0,Value.slice none 0 0],.int .i64 10]∧L'=[]):=by
 refine Tri.en func279 H ntmps279 H fun w0=>J.co 2 H<|O.l (Lo.bx H H) H ?_
 rintro _ _ ⟨g1,rfl,rfl⟩
 refine O.l (Lo.al Y68 H) H ?_
 rintro _ _ ⟨g2,rfl,rfl⟩
 refine O.oo 4 H<|O.l (Lo.ca call281 (jb_over 10) [] H H .nil) H ?_
 rintro _ _ ⟨_,⟨rfl,rfl⟩,rfl⟩
 refine O.oo 2 H<|O.l0 (Lo.st 0 Z68 H H H H H H H) ?_
 rintro _ _ rfl
 refine O.oc 2 H ?_
 exact J.rn [_,_] [] H ⟨⟨_,_,0,0,_,H,(Cel.var 0 H),H,(Cut.agg [.int .i64 0,.int .i64 0,.int .i64 0,.int .i64 0,.int .i64 0,.int .i64 0,.int .i64 0,.int .i64 0,Value.slice none 0 0] A68 Z68 H H)⟩,H,trivial⟩ H ⟨H,H⟩
theorem jb_worksBr (x0 x1 x2 x3 x4 x5 x6:Int) (qv:Value) (hq:Value.oneCell' qv=true):Tri prog 275 #[.agg #[.int .i64 x0,.int .i64 x1,.int .i64 x2,.int .i64 x3,.int .i64 x4,.int .i64 x5,.int .i64 x6,.int .i64 1,qv],.func (.func 279) #[.agg #[.int .i64 x0,.int .i64 x1,.int .i64 x2,.int .i64 x3,.int .i64 x4,.int .i64 x5,.int .i64 x6,.int .i64 1,qv]] #[]] [] [] (fun v L'=>v=.tuple #[.agg #[.int .i64 0,.int .i64 0,.int .i64 0,.int .i64 0,.int .i64 0,.int .i64 0,.int .i64 0,.int .i64 0,Value.slice none 0 0],.int .i64 10,.int .i64 0]∧L'=[]):=by
 refine Tri.en func275 H ntmps275 H fun w0=>J.co 2 H<|O.l (Lo.bx H H) H ?_
 rintro _ _ ⟨g1,rfl,rfl⟩
 refine O.l (Lo.al Y68 H) H ?_
 rintro _ _ ⟨g2,rfl,rfl⟩
 refine O.oo 7 H<|O.q (Qt.lv 1 A3 H H H) H<|O.oo 7 H<|O.l (Lo.cb call279 H H (jb_breaks x0 x1 x2 x3 x4 x5 x6 1 qv hq) [] H .nil) H ?_
 rintro _ _ ⟨_,⟨rfl,rfl⟩,rfl⟩
 refine O.oo 3 H<|O.l (Lo.al Y68 H) H ?_
 rintro _ _ ⟨g4,rfl,rfl⟩
 refine O.l0 (Lo.st 0 Z68 H H H H H H H) ?_
 rintro _ _ rfl
 refine O.oo 4 H<|O.q (Qt.lva 0 A68 Z68 H H H) H<|O.oo 1 H<|O.l0 (Lo.st 1 Z68 H H H H H H H) ?_
 rintro _ _ rfl
 refine O.oc 3 H ?_
 exact J.rn [_,_,_] [] H ⟨⟨_,_,0,0,_,H,(Cel.var 1 H),H,(Cut.agg [.int .i64 0,.int .i64 0,.int .i64 0,.int .i64 0,.int .i64 0,.int .i64 0,.int .i64 0,.int .i64 0,Value.slice none 0 0] A68 Z68 H H)⟩,H,H,trivial⟩ H ⟨H,H⟩
theorem jb_Done (x0 x1 x2 x3 x4 x5 x6:Int) (qv lv:Value) (l:List Int) (hq:Value.oneCell' qv=true) (hl:l.length≤1000) (hne:l≠[]):Tri prog 193 #[.agg #[.int .i64 x0,.int .i64 x1,.int .i64 x2,.int .i64 x3,.int .i64 x4,.int .i64 x5,.int .i64 x6,.int .i64 1,qv],lv] [rd lv 1 (l.map encZ)] [] (fun v L'=>∃ V',v=.tuple #[.agg #[.int .i64 x0,.int .i64 x1,.int .i64 x2,.int .i64 x3,.int .i64 x4,.int .i64 x5,.int .i64 x6,.int .i64 2,V'],.int .i64 0,.int .i64 0]∧L'=[row V' 3 1 ((Jb.rising l).map encZ)]):=by
 refine Tri.en func193 H ntmps193 H fun w0=>J.co 2 H<|O.l (Lo.bx H H) H ?_
 rintro _ _ ⟨g1,rfl,rfl⟩
 refine O.l (Lo.al Y68 H) H ?_
 rintro _ _ ⟨g2,rfl,rfl⟩
 refine O.oo 5 H<|O.l (Lo.buildE encZ U60 Z3) H ?_
 rintro V3 _ rfl
 refine O.oo 1 H<|O.l (Lo.am 0 N60 info3 H H H H H (Src.ro 0 H) encZ.one (by first|omega|(simp only [List.length_append,List.length_cons,List.length_nil];omega)) (by first|omega|(simp only [List.length_append,List.length_cons,List.length_nil];omega))) H ?_
 rintro V4 _ rfl
 refine O.l (Lo.al zeroValue60 H) H ?_
 rintro _ _ ⟨g5,rfl,rfl⟩
 refine O.one (Src.row 1 H) (fun hV6=>?_)
 refine O.l0 (Lo.so 0 Z60 hV6 H H H H) ?_
 rintro _ _ rfl
 refine O.oc 2 H<|J.region<|O.q (Qt.lv 0 A60 H H H) H<|O.l (Lo.ca call274 (s_Sort V4 l (by omega)) [1] H H .nil) H ?_
 rintro _ _ ⟨_,⟨rfl,rfl⟩,rfl⟩
 refine O.oo 3 H<|O.q (Qt.lva 3 A68 Z68 H H H) H<|O.p (Pu.makeFunc [.pointer (some ⟨g1,0,none⟩),.pointer (some ⟨g5,0,none⟩)] H) H<|O.l (Lo.ca call275 (jb_worksNe g1 g5 x0 x1 x2 x3 x4 x5 x6 qv V4 l hq hl hne) [3,1,0] H H .nil) H ?_
 rintro _ _ ⟨_,⟨V8,rfl,rfl⟩,rfl⟩
 refine O.oo 3 H ?_
 refine O.one (Src.row 0 H) (fun hV10=>?_)
 refine O.l0 (Lo.st 1 Z68 H H H H H (by simp only [List.all_cons,List.all_nil,Bool.and_true,hV10]<;>rfl) H) ?_
 rintro _ _ rfl
 refine O.oc 3 H ?_
 exact J.rn [_,_,_] [0] H ⟨⟨_,_,0,0,_,H,(Cel.var 1 H),H,(Cut.agg [.int .i64 x0,.int .i64 x1,.int .i64 x2,.int .i64 x3,.int .i64 x4,.int .i64 x5,.int .i64 x6,.int .i64 2,V8] A68 Z68 H H)⟩,H,H,trivial⟩ H ⟨V8,H,H⟩
theorem jb_DoneE (x0 x1 x2 x3 x4 x5 x6:Int) (qv lv:Value) (hq:Value.oneCell' qv=true):Tri prog 193 #[.agg #[.int .i64 x0,.int .i64 x1,.int .i64 x2,.int .i64 x3,.int .i64 x4,.int .i64 x5,.int .i64 x6,.int .i64 1,qv],lv] [rd lv 1 (([]:List Int).map encZ)] [] (fun v L'=>v=.tuple #[.agg #[.int .i64 0,.int .i64 0,.int .i64 0,.int .i64 0,.int .i64 0,.int .i64 0,.int .i64 0,.int .i64 0,Value.slice none 0 0],.int .i64 1,.int .i64 0]∧L'=[]):=by
 refine Tri.en func193 H ntmps193 H fun w0=>J.co 2 H<|O.l (Lo.bx H H) H ?_
 rintro _ _ ⟨g1,rfl,rfl⟩
 refine O.l (Lo.al Y68 H) H ?_
 rintro _ _ ⟨g2,rfl,rfl⟩
 refine O.oo 5 H<|O.l (Lo.buildE encZ U60 Z3) H ?_
 rintro V3 _ rfl
 refine O.oo 1 H<|O.l (Lo.am 0 N60 info3 H H H H H (Src.ro 0 H) encZ.one (by decide) (by decide)) H ?_
 rintro V4 _ rfl
 refine O.l (Lo.al zeroValue60 H) H ?_
 rintro _ _ ⟨g5,rfl,rfl⟩
 refine O.one (Src.row 1 H) (fun hV6=>?_)
 refine O.l0 (Lo.so 0 Z60 hV6 H H H H) ?_
 rintro _ _ rfl
 refine O.oc 2 H<|J.region<|O.q (Qt.lv 0 A60 H H H) H<|O.l (Lo.ca call274 (s_Sort V4 ([]:List Int) (by decide)) [1] H H .nil) H ?_
 rintro _ _ ⟨_,⟨rfl,rfl⟩,rfl⟩
 refine O.oo 3 H<|O.q (Qt.lva 3 A68 Z68 H H H) H<|O.p (Pu.makeFunc [.pointer (some ⟨g1,0,none⟩),.pointer (some ⟨g5,0,none⟩)] H) H<|O.l (Lo.ca call275 (jb_worksE g1 g5 x0 x1 x2 x3 x4 x5 x6 qv V4 hq) [3,1,0] H H .nil) H ?_
 rintro _ _ ⟨_,⟨rfl,rfl⟩,rfl⟩
 refine O.oo 3 H<|O.l0 (Lo.st 0 Z68 H H H H H H H) ?_
 rintro _ _ rfl
 refine O.oc 3 H ?_
 exact J.rn [_,_,_] [] H ⟨⟨_,_,0,0,_,H,(Cel.var 0 H),H,(Cut.agg [.int .i64 0,.int .i64 0,.int .i64 0,.int .i64 0,.int .i64 0,.int .i64 0,.int .i64 0,.int .i64 0,Value.slice none 0 0] A68 Z68 H H)⟩,H,H,trivial⟩ H ⟨H,H⟩
theorem jb_Broken (x0 x1 x2 x3 x4 x5 x6:Int) (qv:Value) (hq:Value.oneCell' qv=true):Tri prog 195 #[.agg #[.int .i64 x0,.int .i64 x1,.int .i64 x2,.int .i64 x3,.int .i64 x4,.int .i64 x5,.int .i64 x6,.int .i64 1,qv]] [] [] (fun v L'=>v=.tuple #[.int .i64 10,.int .i64 0]∧L'=[]):=by
 refine Tri.en func195 H ntmps195 H fun w0=>J.co 2 H<|O.l (Lo.bx H H) H ?_
 rintro _ _ ⟨g1,rfl,rfl⟩
 refine O.oo 5 H<|O.q (Qt.lva 0 A68 Z68 H H H) H<|O.p (Pu.build [(0,.agg #[.int .i64 x0,.int .i64 x1,.int .i64 x2,.int .i64 x3,.int .i64 x4,.int .i64 x5,.int .i64 x6,.int .i64 1,qv])] [.int .i64 x0,.int .i64 x1,.int .i64 x2,.int .i64 x3,.int .i64 x4,.int .i64 x5,.int .i64 x6,.int .i64 1,qv] #[(0,9)] U345 Y345 (places345 N345) H (by cases qv<;>first|(simp [Value.oneCell'] at hq;done)|(kernel_rfl;done))) H<|O.p (Pu.makeFuncB [.agg #[.int .i64 x0,.int .i64 x1,.int .i64 x2,.int .i64 x3,.int .i64 x4,.int .i64 x5,.int .i64 x6,.int .i64 1,qv]] [] H H) H<|O.oo 4 H<|O.q (Qt.lva 0 A68 Z68 H H H) H<|O.oo 1 H<|O.l (Lo.ca call275 (jb_worksBr x0 x1 x2 x3 x4 x5 x6 qv hq) [] H H .nil) H ?_
 rintro _ _ ⟨_,⟨rfl,rfl⟩,rfl⟩
 refine O.oo 4 H<|O.l (Lo.al Y68 H) H ?_
 rintro _ _ ⟨g3,rfl,rfl⟩
 refine O.l0 (Lo.st 0 Z68 H H H H H H H) ?_
 rintro _ _ rfl
 refine O.oc 10 H ?_
 exact J.rn [_,_] [] H ⟨H,H,trivial⟩ H ⟨H,H⟩
theorem jb_HeardNo (x0 x1 x2 x3 x4 x5 x6:Int) (ph:Int) (jv:Value) (l:List Int) (c code:Int) (hl:l.length≤1000) (hm:ph≠2∨c∉l):Tri prog 201 #[.agg #[.int .i64 x0,.int .i64 x1,.int .i64 x2,.int .i64 x3,.int .i64 x4,.int .i64 x5,.int .i64 x6,.int .i64 ph,jv],.int .i64 c,.int .i64 code] [rd jv 1 (l.map encZ)] [] (fun v L'=>∃ V',v=.tuple #[.agg #[.int .i64 x0,.int .i64 x1,.int .i64 x2,.int .i64 x3,.int .i64 x4,.int .i64 x5,.int .i64 x6,.int .i64 ph,V'],.int .i64 0]∧L'=[row V' 3 1 (l.map encZ)]):=by
 refine Tri.en func201 H ntmps201 H fun w0=>J.co 2 H ?_
 refine O.one (Src.ro 0 H) (fun hV2=>?_)
 refine O.l (Lo.bx H H) H ?_
 rintro _ _ ⟨g1,rfl,rfl⟩
 refine O.l (Lo.al Y68 H) H ?_
 rintro _ _ ⟨g3,rfl,rfl⟩
 refine O.oo 5 H<|O.q (Qt.lv 1 A60 H H H) H<|O.oo 1 H<|O.l (Lo.ca call280 (s_Index jv l c (by omega)) [] H H (.ro 0 H .nil)) H ?_
 rintro _ _ ⟨_,⟨k4,rfl,hx5,rfl⟩,rfl⟩
 refine O.oo 6 H<|O.q (Qt.lv 1 A3 H H H) H<|O.oo 2 H ?_
 refine O.sd 17 H (fun p7=>?_) (fun p7=>?_)
 ·
  refine O.oo 8 H<|O.q (Qt.lv 1 A60 H H H) H<|O.nr 3 1 (([]:List Int).map encZ) H<|O.l (Lo.am 0 N60 info3 H H H H H (Src.ro 0 H) encZ.one (by first|omega|(simp only [List.length_append,List.length_cons,List.length_nil];omega)) (by first|omega|(simp only [List.length_append,List.length_cons,List.length_nil];omega))) H ?_
  rintro V8 _ rfl
  refine O.oo 1 H ?_
  refine O.one (Src.row 0 H) (fun hV9=>?_)
  refine O.l0 (Lo.so 2 Z60 hV9 H H H H) ?_
  rintro _ _ rfl
  refine O.oo 3 H<|O.q (Qt.lva 2 A68 Z68 H H H) H<|O.l0 (Lo.st 1 Z68 H H H H H (by simp only [List.all_cons,List.all_nil,Bool.and_true,hV9]<;>rfl) H) ?_
  rintro _ _ rfl
  refine O.oc 2 H ?_
  exact J.rn [_,_] [0] H ⟨⟨_,_,0,0,_,H,(Cel.var 1 H),H,(Cut.agg [.int .i64 x0,.int .i64 x1,.int .i64 x2,.int .i64 x3,.int .i64 x4,.int .i64 x5,.int .i64 x6,.int .i64 ph,V8] A68 Z68 H H)⟩,H,trivial⟩ H ⟨V8,H,H⟩
 refine O.oc 4 H ?_
 refine J.cd H (fun p10=>?_) (fun p10=>?_)
 ·
  refine J.co 3 H<|O.q (Qt.lv 1 A60 H H H) H<|O.nr 3 1 (([]:List Int).map encZ) H<|O.l (Lo.am 0 N60 info3 H H H H H (Src.ro 0 H) encZ.one (by first|omega|(simp only [List.length_append,List.length_cons,List.length_nil];omega)) (by first|omega|(simp only [List.length_append,List.length_cons,List.length_nil];omega))) H ?_
  rintro V11 _ rfl
  refine O.oo 1 H ?_
  refine O.one (Src.row 0 H) (fun hV12=>?_)
  refine O.l0 (Lo.so 2 Z60 hV12 H H H H) ?_
  rintro _ _ rfl
  refine O.oo 3 H<|O.q (Qt.lva 2 A68 Z68 H H H) H<|O.l0 (Lo.st 1 Z68 H H H H H (by simp only [List.all_cons,List.all_nil,Bool.and_true,hV12]<;>rfl) H) ?_
  rintro _ _ rfl
  refine O.oc 2 H ?_
  exact J.rn [_,_] [0] H ⟨⟨_,_,0,0,_,H,(Cel.var 1 H),H,(Cut.agg [.int .i64 x0,.int .i64 x1,.int .i64 x2,.int .i64 x3,.int .i64 x4,.int .i64 x5,.int .i64 x6,.int .i64 ph,V11] A68 Z68 H H)⟩,H,trivial⟩ H ⟨V11,H,H⟩
 exact absurd ((Jb.idx_mem (by assumption:Jb.IdxP l c _)).1 (by omega)) (hm.resolve_left (by omega))
theorem jb_HeardBad (x0 x1 x2 x3 x4 x5 x6:Int) (jv:Value) (l:List Int) (c code:Int) (hl:l.length≤1000) (hm:c∈l) (hc:code≠1):Tri prog 201 #[.agg #[.int .i64 x0,.int .i64 x1,.int .i64 x2,.int .i64 x3,.int .i64 x4,.int .i64 x5,.int .i64 x6,.int .i64 2,jv],.int .i64 c,.int .i64 code] [rd jv 1 (l.map encZ)] [] (fun v L'=>v=.tuple #[.agg #[.int .i64 0,.int .i64 0,.int .i64 0,.int .i64 0,.int .i64 0,.int .i64 0,.int .i64 0,.int .i64 0,Value.slice none 0 0],.int .i64 7]∧L'=[]):=by
 refine Tri.en func201 H ntmps201 H fun w0=>J.co 2 H ?_
 refine O.one (Src.ro 0 H) (fun hV2=>?_)
 refine O.l (Lo.bx H H) H ?_
 rintro _ _ ⟨g1,rfl,rfl⟩
 refine O.l (Lo.al Y68 H) H ?_
 rintro _ _ ⟨g3,rfl,rfl⟩
 refine O.oo 5 H<|O.q (Qt.lv 1 A60 H H H) H<|O.oo 1 H<|O.l (Lo.ca call280 (s_Index jv l c (by omega)) [] H H (.ro 0 H .nil)) H ?_
 rintro _ _ ⟨_,⟨k4,rfl,hx5,rfl⟩,rfl⟩
 refine O.oo 6 H<|O.q (Qt.lv 1 A3 H H H) H<|O.oc 6 H<|J.condF H (decide_eq_false (by have h_:=(Jb.idx_mem hx5).2 hm;omega))<|J.cc 7 H<|J.condT H (decide_eq_true hc)<|J.co 2 H<|O.l (Lo.ca call281 (jb_over 7) [] H H .nil) H ?_
 rintro _ _ ⟨_,⟨rfl,rfl⟩,rfl⟩
 refine O.oo 2 H<|O.l0 (Lo.st 0 Z68 H H H H H H H) ?_
 rintro _ _ rfl
 refine O.oc 2 H ?_
 exact J.rn [_,_] [] H ⟨⟨_,_,0,0,_,H,(Cel.var 0 H),H,(Cut.agg [.int .i64 0,.int .i64 0,.int .i64 0,.int .i64 0,.int .i64 0,.int .i64 0,.int .i64 0,.int .i64 0,Value.slice none 0 0] A68 Z68 H H)⟩,H,trivial⟩ H ⟨H,H⟩
theorem jb_Heard (x0 x1 x2 x3 x4 x5 x6:Int) (jv:Value) (l:List Int) (c:Int) (hl:l.length≤1000) (hm:c∈l) (hu:Jb.Up l) (hne:Jb.without l c≠[]):Tri prog 201 #[.agg #[.int .i64 x0,.int .i64 x1,.int .i64 x2,.int .i64 x3,.int .i64 x4,.int .i64 x5,.int .i64 x6,.int .i64 2,jv],.int .i64 c,.int .i64 1] [rd jv 1 (l.map encZ)] [] (fun v L'=>∃ V',v=.tuple #[.agg #[.int .i64 x0,.int .i64 x1,.int .i64 x2,.int .i64 x3,.int .i64 x4,.int .i64 x5,.int .i64 x6,.int .i64 2,V'],.int .i64 0]∧L'=[row V' 3 1 ((Jb.without l c).map encZ)]):=by
 refine Tri.en func201 H ntmps201 H fun w0=>J.co 2 H ?_
 refine O.one (Src.ro 0 H) (fun hV2=>?_)
 refine O.l (Lo.bx H H) H ?_
 rintro _ _ ⟨g1,rfl,rfl⟩
 refine O.l (Lo.al Y68 H) H ?_
 rintro _ _ ⟨g3,rfl,rfl⟩
 refine O.oo 5 H<|O.q (Qt.lv 1 A60 H H H) H<|O.oo 1 H<|O.l (Lo.ca call280 (s_Index jv l c (by omega)) [] H H (.ro 0 H .nil)) H ?_
 rintro _ _ ⟨_,⟨k4,rfl,hx5,rfl⟩,rfl⟩
 refine O.oo 6 H<|O.q (Qt.lv 1 A3 H H H) H<|O.oc 6 H<|J.condF H (decide_eq_false (by have h_:=(Jb.idx_mem hx5).2 hm;omega))<|J.co 11 H<|O.l (Lo.buildE encZ U60 Z3) H ?_
 rintro V7 _ rfl
 refine O.oo 1 H<|O.q (Qt.lv 2 A60 H H H) H<|O.oo 1 H<|O.q (Qt.cutHead U60 Z3 H (Src.ro 0 H) H (by first|omega|(have h0_:=((Jb.idx_mem (by assumption:Jb.IdxP l c _)).2 hm);have h_:=Jb.idx_at (by assumption:Jb.IdxP l c _) h0_;first|omega|(simp only [List.length_append,List.length_cons,List.length_nil,List.length_take,List.length_drop];omega))) (by first|omega|(have h0_:=((Jb.idx_mem (by assumption:Jb.IdxP l c _)).2 hm);have h_:=Jb.idx_at (by assumption:Jb.IdxP l c _) h0_;first|omega|(simp only [List.length_append,List.length_cons,List.length_nil,List.length_take,List.length_drop];omega)))) H<|O.l (Lo.am 0 N60 info3 H H H H H (Src.head (l:=l) (Src.ro 0 H) (by first|omega|(have h0_:=((Jb.idx_mem (by assumption:Jb.IdxP l c _)).2 hm);have h_:=Jb.idx_at (by assumption:Jb.IdxP l c _) h0_;first|omega|(simp only [List.length_append,List.length_cons,List.length_nil,List.length_take,List.length_drop];omega)))) encZ.one (by first|omega|(have h0_:=((Jb.idx_mem (by assumption:Jb.IdxP l c _)).2 hm);have h_:=Jb.idx_at (by assumption:Jb.IdxP l c _) h0_;first|omega|(simp only [List.length_append,List.length_cons,List.length_nil,List.length_take,List.length_drop];omega))) (by first|omega|(have h0_:=((Jb.idx_mem (by assumption:Jb.IdxP l c _)).2 hm);have h_:=Jb.idx_at (by assumption:Jb.IdxP l c _) h0_;first|omega|(simp only [List.length_append,List.length_cons,List.length_nil,List.length_take,List.length_drop];omega)))) H ?_
 rintro V8 _ rfl
 refine O.oc 3 H<|J.dm [(0,false),(1,false),(2,false),(3,false),(4,false),(5,false),(6,false),(7,false),(8,true),(9,true),(10,false),(11,false),(12,true),(13,false)] [2] Tryz.mixed (by kernel_rfl) H<|Mx.q H (Qt.lva 0 A68 Z68 H H H) H<|Mx.p H (Pu.build [(0,.agg #[.int .i64 x0,.int .i64 x1,.int .i64 x2,.int .i64 x3,.int .i64 x4,.int .i64 x5,.int .i64 x6,.int .i64 2,jv])] [.int .i64 x0,.int .i64 x1,.int .i64 x2,.int .i64 x3,.int .i64 x4,.int .i64 x5,.int .i64 x6,.int .i64 2,jv] #[(0,9)] U345 Y345 (places345 N345) H (by cases jv<;>first|(simp [Value.oneCell'] at hV2;done)|(kernel_rfl;done))) H<|Mx.r 2 H<|Mx.q H (Qt.lv 0 A60 H H H) H<|Mx.r 1 H<|Mx.p H (Pu.add' H H (by first|omega|(have h0_:=((Jb.idx_mem (by assumption:Jb.IdxP l c _)).2 hm);have h_:=Jb.idx_at (by assumption:Jb.IdxP l c _) h0_;first|omega|(simp only [List.length_append,List.length_cons,List.length_nil,List.length_take,List.length_drop];omega)))) H<|Mx.q H (Qt.cutTail U60 Z3 H (Src.ro 0 H) H (by first|omega|(have h0_:=((Jb.idx_mem (by assumption:Jb.IdxP l c _)).2 hm);have h_:=Jb.idx_at (by assumption:Jb.IdxP l c _) h0_;first|omega|(simp only [List.length_append,List.length_cons,List.length_nil,List.length_take,List.length_drop];omega))) (by first|omega|(have h0_:=((Jb.idx_mem (by assumption:Jb.IdxP l c _)).2 hm);have h_:=Jb.idx_at (by assumption:Jb.IdxP l c _) h0_;first|omega|(simp only [List.length_append,List.length_cons,List.length_nil,List.length_take,List.length_drop];omega)))) H<|Mx.l H (Lo.am 0 N60 info3 H H H H H (Src.tail (l:=l) (Src.ro 0 H) (by first|omega|(have h0_:=((Jb.idx_mem (by assumption:Jb.IdxP l c _)).2 hm);have h_:=Jb.idx_at (by assumption:Jb.IdxP l c _) h0_;first|omega|(simp only [List.length_append,List.length_cons,List.length_nil,List.length_take,List.length_drop];omega))) H) encZ.one (by first|omega|(have h0_:=((Jb.idx_mem (by assumption:Jb.IdxP l c _)).2 hm);have h_:=Jb.idx_at (by assumption:Jb.IdxP l c _) h0_;first|omega|(simp only [List.length_append,List.length_cons,List.length_nil,List.length_take,List.length_drop];omega))) (by first|omega|(have h0_:=((Jb.idx_mem (by assumption:Jb.IdxP l c _)).2 hm);have h_:=Jb.idx_at (by assumption:Jb.IdxP l c _) h0_;first|omega|(simp only [List.length_append,List.length_cons,List.length_nil,List.length_take,List.length_drop];omega)))) H ?_
 rintro V9 _ rfl
 refine MxK.gp [2] [0] H H<|Mx.l H (Lo.ca call277 (jb_wait x0 x1 x2 x3 x4 x5 x6 2 jv V9 ((([]:List Int)++(l.take (k4).toNat))++(l.drop (k4+1).toNat)) hV2 (by rw [List.nil_append,Jb.del_at hu (by assumption:Jb.IdxP l c _) ((Jb.idx_mem (by assumption:Jb.IdxP l c _)).2 hm)];exact hne)) [0] H H .nil) H ?_
 rintro _ _ ⟨_,⟨rfl,rfl⟩,rfl⟩
 refine MxK.al [2] H (by kernel_rfl)<|Mx.r 2 H ?_
 refine Mx.one H (fun _ h=>by cases h<;>rfl) (Src.row 0 H) (fun hV11=>?_)
 refine Mx.l0 H (Lo.st 1 Z68 H H H H H (by simp only [List.all_cons,List.all_nil,Bool.and_true,hV11]<;>rfl) H) ?_
 rintro _ _ rfl
 refine MxK.al [2] H (by kernel_rfl)<|Mx.r 1 H<|Mx.nil ?_
 exact J.rn [_,_] [0] H ⟨⟨_,_,0,0,_,H,(Cel.var 1 H),H,(Cut.agg [.int .i64 x0,.int .i64 x1,.int .i64 x2,.int .i64 x3,.int .i64 x4,.int .i64 x5,.int .i64 x6,.int .i64 2,V9] A68 Z68 H H)⟩,H,trivial⟩ H ⟨V9,H,(by rw [List.nil_append,Jb.del_at hu (by assumption:Jb.IdxP l c _) ((Jb.idx_mem (by assumption:Jb.IdxP l c _)).2 hm)])⟩
theorem jb_HeardE (x0 x1 x2 x3 x4 x5 x6:Int) (jv:Value) (l:List Int) (c:Int) (hl:l.length≤1000) (hm:c∈l) (hu:Jb.Up l) (he:Jb.without l c=[]):Tri prog 201 #[.agg #[.int .i64 x0,.int .i64 x1,.int .i64 x2,.int .i64 x3,.int .i64 x4,.int .i64 x5,.int .i64 x6,.int .i64 2,jv],.int .i64 c,.int .i64 1] [rd jv 1 (l.map encZ)] [] (fun v L'=>v=.tuple #[.agg #[.int .i64 0,.int .i64 0,.int .i64 0,.int .i64 0,.int .i64 0,.int .i64 0,.int .i64 0,.int .i64 0,Value.slice none 0 0],.int .i64 1]∧L'=[]):=by
 refine Tri.en func201 H ntmps201 H fun w0=>J.co 2 H ?_
 refine O.one (Src.ro 0 H) (fun hV2=>?_)
 refine O.l (Lo.bx H H) H ?_
 rintro _ _ ⟨g1,rfl,rfl⟩
 refine O.l (Lo.al Y68 H) H ?_
 rintro _ _ ⟨g3,rfl,rfl⟩
 refine O.oo 5 H<|O.q (Qt.lv 1 A60 H H H) H<|O.oo 1 H<|O.l (Lo.ca call280 (s_Index jv l c (by omega)) [] H H (.ro 0 H .nil)) H ?_
 rintro _ _ ⟨_,⟨k4,rfl,hx5,rfl⟩,rfl⟩
 refine O.oo 6 H<|O.q (Qt.lv 1 A3 H H H) H<|O.oc 6 H<|J.condF H (decide_eq_false (by have h_:=(Jb.idx_mem hx5).2 hm;omega))<|J.co 11 H<|O.l (Lo.buildE encZ U60 Z3) H ?_
 rintro V7 _ rfl
 refine O.oo 1 H<|O.q (Qt.lv 2 A60 H H H) H<|O.oo 1 H<|O.q (Qt.cutHead U60 Z3 H (Src.ro 0 H) H (by first|omega|(have h0_:=((Jb.idx_mem (by assumption:Jb.IdxP l c _)).2 hm);have h_:=Jb.idx_at (by assumption:Jb.IdxP l c _) h0_;first|omega|(simp only [List.length_append,List.length_cons,List.length_nil,List.length_take,List.length_drop];omega))) (by first|omega|(have h0_:=((Jb.idx_mem (by assumption:Jb.IdxP l c _)).2 hm);have h_:=Jb.idx_at (by assumption:Jb.IdxP l c _) h0_;first|omega|(simp only [List.length_append,List.length_cons,List.length_nil,List.length_take,List.length_drop];omega)))) H<|O.l (Lo.am 0 N60 info3 H H H H H (Src.head (l:=l) (Src.ro 0 H) (by first|omega|(have h0_:=((Jb.idx_mem (by assumption:Jb.IdxP l c _)).2 hm);have h_:=Jb.idx_at (by assumption:Jb.IdxP l c _) h0_;first|omega|(simp only [List.length_append,List.length_cons,List.length_nil,List.length_take,List.length_drop];omega)))) encZ.one (by first|omega|(have h0_:=((Jb.idx_mem (by assumption:Jb.IdxP l c _)).2 hm);have h_:=Jb.idx_at (by assumption:Jb.IdxP l c _) h0_;first|omega|(simp only [List.length_append,List.length_cons,List.length_nil,List.length_take,List.length_drop];omega))) (by first|omega|(have h0_:=((Jb.idx_mem (by assumption:Jb.IdxP l c _)).2 hm);have h_:=Jb.idx_at (by assumption:Jb.IdxP l c _) h0_;first|omega|(simp only [List.length_append,List.length_cons,List.length_nil,List.length_take,List.length_drop];omega)))) H ?_
 rintro V8 _ rfl
 refine O.oc 3 H<|J.dm [(0,false),(1,false),(2,false),(3,false),(4,false),(5,false),(6,false),(7,false),(8,true),(9,true),(10,false),(11,false),(12,true),(13,false)] [2] Tryz.mixed (by kernel_rfl) H<|Mx.q H (Qt.lva 0 A68 Z68 H H H) H<|Mx.p H (Pu.build [(0,.agg #[.int .i64 x0,.int .i64 x1,.int .i64 x2,.int .i64 x3,.int .i64 x4,.int .i64 x5,.int .i64 x6,.int .i64 2,jv])] [.int .i64 x0,.int .i64 x1,.int .i64 x2,.int .i64 x3,.int .i64 x4,.int .i64 x5,.int .i64 x6,.int .i64 2,jv] #[(0,9)] U345 Y345 (places345 N345) H (by cases jv<;>first|(simp [Value.oneCell'] at hV2;done)|(kernel_rfl;done))) H<|Mx.r 2 H<|Mx.q H (Qt.lv 0 A60 H H H) H<|Mx.r 1 H<|Mx.p H (Pu.add' H H (by first|omega|(have h0_:=((Jb.idx_mem (by assumption:Jb.IdxP l c _)).2 hm);have h_:=Jb.idx_at (by assumption:Jb.IdxP l c _) h0_;first|omega|(simp only [List.length_append,List.length_cons,List.length_nil,List.length_take,List.length_drop];omega)))) H<|Mx.q H (Qt.cutTail U60 Z3 H (Src.ro 0 H) H (by first|omega|(have h0_:=((Jb.idx_mem (by assumption:Jb.IdxP l c _)).2 hm);have h_:=Jb.idx_at (by assumption:Jb.IdxP l c _) h0_;first|omega|(simp only [List.length_append,List.length_cons,List.length_nil,List.length_take,List.length_drop];omega))) (by first|omega|(have h0_:=((Jb.idx_mem (by assumption:Jb.IdxP l c _)).2 hm);have h_:=Jb.idx_at (by assumption:Jb.IdxP l c _) h0_;first|omega|(simp only [List.length_append,List.length_cons,List.length_nil,List.length_take,List.length_drop];omega)))) H<|Mx.l H (Lo.am 0 N60 info3 H H H H H (Src.tail (l:=l) (Src.ro 0 H) (by first|omega|(have h0_:=((Jb.idx_mem (by assumption:Jb.IdxP l c _)).2 hm);have h_:=Jb.idx_at (by assumption:Jb.IdxP l c _) h0_;first|omega|(simp only [List.length_append,List.length_cons,List.length_nil,List.length_take,List.length_drop];omega))) H) encZ.one (by first|omega|(have h0_:=((Jb.idx_mem (by assumption:Jb.IdxP l c _)).2 hm);have h_:=Jb.idx_at (by assumption:Jb.IdxP l c _) h0_;first|omega|(simp only [List.length_append,List.length_cons,List.length_nil,List.length_take,List.length_drop];omega))) (by first|omega|(have h0_:=((Jb.idx_mem (by assumption:Jb.IdxP l c _)).2 hm);have h_:=Jb.idx_at (by assumption:Jb.IdxP l c _) h0_;first|omega|(simp only [List.length_append,List.length_cons,List.length_nil,List.length_take,List.length_drop];omega)))) H ?_
 rintro V9 _ rfl
 refine MxK.gp [2] [0] H H<|Mx.l H (Lo.ca call277 (cast (congrArg (fun z=>Tri prog 277 #[.agg #[.int .i64 x0,.int .i64 x1,.int .i64 x2,.int .i64 x3,.int .i64 x4,.int .i64 x5,.int .i64 x6,.int .i64 2,jv],V9] [] [row V9 3 1 (z.map encZ)] _) ((by rw [List.nil_append,Jb.del_at hu (by assumption:Jb.IdxP l c _) ((Jb.idx_mem (by assumption:Jb.IdxP l c _)).2 hm)];exact he.symm):([]:List Int)=(([]:List Int)++(l.take (k4).toNat))++(l.drop (k4+1).toNat))) (jb_waitE x0 x1 x2 x3 x4 x5 x6 2 jv V9 hV2)) [0] H H .nil) H ?_
 rintro _ _ ⟨_,⟨rfl,rfl⟩,rfl⟩
 refine MxK.al [1] H (by kernel_rfl)<|Mx.r 2 H<|Mx.l0 H (Lo.st 0 Z68 H H H H H H H) ?_
 rintro _ _ rfl
 refine MxK.al [1] H (by kernel_rfl)<|Mx.r 1 H<|Mx.nil ?_
 exact J.rn [_,_] [] H ⟨⟨_,_,0,0,_,H,(Cel.var 0 H),H,(Cut.agg [.int .i64 0,.int .i64 0,.int .i64 0,.int .i64 0,.int .i64 0,.int .i64 0,.int .i64 0,.int .i64 0,Value.slice none 0 0] A68 Z68 H H)⟩,H,trivial⟩ H ⟨H,H⟩
theorem ky_381 (gv:Nat) (mv:Value) (m:List (Int×Int)):ItN prog 381 #[.pointer (some ⟨gv,0,none⟩)] [var gv [mv] 178,miV mv (Value.int .i64) m] (kyNx m) (kyFull m):=by
  refine ItN.enter (lb:=[.pointer (some ⟨gv,0,none⟩)]) (body:=_) 14 func381 rfl ntmps381 rfl (by rfl) ?_
  intro l mm X Z φ LL ψ LX Rx W y0 hro hy h0 R0 hR
  have hv:=hro (var gv [mv] 178) (by simp)
  have hm:=hro (miV mv (Value.int .i64) m) (by simp)
  rcases hm.1 with ⟨rfl,rfl⟩|⟨b,rfl,arr,clock,hb,hM⟩
  · refine ⟨[var gv [.map none] 178],fun A hA=>?_,?_⟩
    · simp only [List.mem_singleton] at hA;subst hA;exact hv
    refine JI.seq ?_
    refine JI.region ?_
    refine OI.q (Qt.ld rfl (Cel.roVar 0 rfl) (o:=0) (off:=0) rfl (Cut.one isAgg178 rfl)) rfl ?_
    refine OI.l (Lo.rangeNil underlying178 rfl) rfl ?_
    rintro _ _ ⟨g,rfl,rfl⟩
    refine OI.nil ?_
    refine JI.block ?_
    refine JI.loop (X:=Unit) (fun _=>True) (fun _=>[(0,.func (.yield l) #[] #[]),(5,.pointer (some ⟨g,0,none⟩))]) (fun _=>blk g (.mapIter none 0 #[] 0) :: LL y0) (fun _=>0) () trivial ⟨rfl,rfl,trivial⟩ (List.range (LL y0).length.succ) List.nodup_range (sel_all _) ?_
    rintro _ -
    refine JI.seq ?_
    refine JI.region ?_
    refine OI.l (Lo.nextNil 0 rfl rfl) rfl ?_
    rintro _ _ ⟨rfl,rfl⟩
    refine OI.p (Pu.extract rfl rfl) rfl ?_
    refine OI.nil ?_
    refine JI.seq ?_
    refine JI.condF rfl rfl ?_
    refine JI.exit _ rfl ?_
    exact JI.done fun ok a w ha hs=>hR _ _ _ (.inl rfl) ha.defers (.inl ⟨[],y0,⟨[],rfl,by simp [keysI]⟩,h0,hs.tail⟩)
  · have hb2:(blk b (.map arr clock)).holds W:=hb
    refine ⟨var gv [.map (some b)] 178 :: blk b (.map arr clock) :: Rx,fun A hA=>?_,?_⟩
    · rcases List.mem_cons.1 hA with rfl|hA
      · exact hv
      · rcases List.mem_cons.1 hA with rfl|hA
        · exact ⟨hb2,hm.2⟩
        · exact hro A (by simp [hA])
    refine JI.seq ?_
    refine JI.region ?_
    refine OI.q (Qt.ld rfl (Cel.roVar 0 rfl) (o:=0) (off:=0) rfl (Cut.one isAgg178 rfl)) rfl ?_
    refine OI.l (Lo.rangeM 1 underlying178 rfl rfl) rfl ?_
    rintro _ _ ⟨g,rfl,rfl⟩
    refine OI.nil ?_
    refine JI.block ?_
    refine JI.loop (X:=List Int×Array Nat×X) (fun ξ=>Walk m arr ξ.2.1 ξ.1∧φ (ξ.1.map fun k=>[Value.int .i64 k]) ξ.2.2) (fun _=>[(0,.func (.yield l) #[] #[]),(5,.pointer (some ⟨g,0,none⟩))]) (fun ξ=>blk g (.mapIter (some b) clock ξ.2.1 clock) :: LL ξ.2.2) (fun ξ=>(leftOf arr ξ.2.1).size) ⟨[],#[],y0⟩ ⟨Walk.nil,h0⟩ ⟨rfl,rfl,trivial⟩ (List.range (LL y0).length.succ) List.nodup_range (sel_all _) ?_
    rintro ⟨ks,seen,y⟩ ⟨hw,hφ⟩
    refine JI.seq ?_
    refine JI.region ?_
    refine OI.l (Lo.nextM 0 1 rfl rfl rfl hM.old) rfl ?_
    rintro _ _ (⟨h0',rfl,rfl⟩|⟨en,hen,rfl,rfl⟩)
    · refine OI.p (Pu.extract rfl rfl) rfl ?_
      refine OI.nil ?_
      refine JI.seq ?_
      refine JI.condF rfl rfl ?_
      refine JI.exit _ rfl ?_
      exact JI.done fun ok a w ha hs=>hR _ _ _ (.inl rfl) ha.defers (.inl ⟨_,y,⟨ks,rfl,hw.full hM h0'⟩,hφ,hs.tail⟩)
    · obtain ⟨k,v,hk,-,hkv,hkn,hw2⟩:=hw.next hM hen
      refine OI.p (Pu.extract rfl rfl) rfl ?_
      refine OI.nil ?_
      refine JI.seq ?_
      refine JI.condT rfl rfl ?_
      refine JI.skip ?_
      refine JI.block ?_
      refine JI.seq ?_
      refine JI.region ?_
      refine OI.q (Qt.entryM 0 1 rfl rfl rfl (mem_left hen).1 hM.born) rfl ?_
      rw [hk]
      refine OI.p (Pu.extract rfl rfl) rfl ?_
      refine OI.p (Pu.assign rfl) rfl ?_
      refine OI.nil ?_
      refine JI.seq ?_
      refine JI.region ?_
      refine OI.p (Pu.move rfl) rfl ?_
      refine OI.p (Pu.move rfl) rfl ?_
      refine OI.yieldN (l:=l) (vs:=[.int .i64 k]) [blk g (.mapIter (some b) clock (seen.push en.born) clock)] (LL y) (K:=fun b_ L'=>match b_ with|true=>∃ y',φ ((ks++[k]).map fun k=>[Value.int .i64 k]) y'∧L'=LL y'|false=>∃ z,ψ z∧L'=LX z) rfl rfl rfl rfl rfl (fun ok W1 hs1 hs2=>?_) rfl ?_
      · have hall:=Cx.roAll ok hs1
        have hft:∀ j,j∈feet (LL y)→j∈feet (blk g (.mapIter (some b) clock (seen.push en.born) clock) :: LL y):=fun j hj=>by rw [feet_cons];exact List.mem_append.2 (.inr hj)
        refine YieldAt.weak (hy _ y [.int .i64 k] W1 hφ ⟨k,List.mem_map.2 ⟨_,hkv,rfl⟩,rfl,ky_not hkn⟩ (fun A hA=>?_) hs2) ?_
        · simp only [List.cons_append,List.nil_append,List.mem_cons] at hA
          rcases hA with rfl|rfl|hA
          · have:=hall (var gv [.map (some b)] 178) (by simp)
            exact ⟨this.1,fun j hj hj'=>this.2 j hj (hft j hj')⟩
          · have:=hall (blk b (.map arr clock)) (by simp)
            exact ⟨.inr ⟨b,rfl,arr,clock,this.1,hM⟩,fun j hj hj'=>this.2 j hj (hft j hj')⟩
          · have:=hall A (by simp [hA])
            exact ⟨this.1,fun j hj hj'=>this.2 j hj (hft j hj')⟩
        · rintro e W' (⟨rfl,y',hy',hs'⟩|⟨rfl,z,hz,hs'⟩)
          · exact ⟨true,_,rfl,⟨y',by rw [ky_app];exact hy',rfl⟩,hs'⟩
          · exact ⟨false,_,rfl,⟨z,hz,rfl⟩,hs'⟩
      · rintro b_ L' hK
        cases b_
        · obtain ⟨z,hz,rfl⟩:=hK
          refine OI.p (Pu.not rfl) rfl ?_
          refine OI.nil ?_
          refine JI.condT rfl rfl ?_
          exact JI.ret fun ok a w ha hs=>hR _ _ _ (.inr rfl) ha.defers (.inr ⟨z,hz,hs.tail⟩)
        · obtain ⟨y',hy',rfl⟩:=hK
          refine OI.p (Pu.not rfl) rfl ?_
          refine OI.nil ?_
          refine JI.condF rfl rfl ?_
          refine JI.skip ?_
          refine JI.blk ?_
          exact JI.lp ⟨ks++[k],seen.push en.born,y'⟩ ⟨hw2,hy'⟩ (left_shrinks arr seen en hen) ⟨rfl,rfl,trivial⟩ (List.range (LL y').length.succ) List.nodup_range (sel_all _)
theorem sort_rising {ks l:List Int} (hn:ks.Nodup) (hp:ks.Perm l):ks.mergeSort (fun x y=>decide (x≤y))=Jb.rising l:=by
  have hm:=List.mergeSort_perm ks fun x y=>decide (x≤y)
  have hs:(ks.mergeSort fun x y=>decide (x≤y)).Pairwise (fun x y=>decide (x≤y)=true):=List.pairwise_mergeSort (fun a b c h1 h2=>by simp only [decide_eq_true_eq] at *;omega) (fun a b=>by simp only [Bool.or_eq_true,decide_eq_true_eq];omega) ks
  have hn2:(ks.mergeSort fun x y=>decide (x≤y)).Nodup:=hm.nodup_iff.2 hn
  refine Jb.up_ext ?_ (Jb.rising_up l) fun x=>?_
  · exact (List.pairwise_and_iff.2 ⟨hs,hn2⟩).imp fun h=>by
      have:=h.1;have:=h.2
      simp only [decide_eq_true_eq] at *;omega
  · rw [hm.mem_iff,hp.mem_iff,Jb.mem_rising]
theorem w_Keys (mv:Value) (hmv:Value.oneCell' mv=true):Tri prog 358 #[mv] [] [] (fun v L'=>∃ g,v=.func (.func 381) #[] #[.pointer (some ⟨g,0,none⟩)]∧L'=[var g [mv] 178]):=by
 refine Tri.en func358 H ntmps358 H fun w0=>J.co 2 H<|O.l (Lo.box [mv] H (one_cells hmv)) H ?_
 rintro _ _ ⟨g1,rfl,rfl⟩
 refine O.oo 4 H<|O.p (Pu.makeFunc [.pointer (some ⟨g1,0,none⟩)] H) H<|O.oc 2 H ?_
 exact J.r1 [0] H H H ⟨g1,H,H⟩
theorem w_AppendSeq (gv:Nat) (mv:Value) (m:List (Int×Int)) (hm:m.length≤100000):Tri prog 390 #[Value.slice none 0 0,.func (.func 381) #[] #[.pointer (some ⟨gv,0,none⟩)]] [var gv [mv] 178,miV mv (Value.int .i64) m] [] (fun v L'=>∃ ks:List Int,(ks.Nodup∧ks.Perm (keysI m))∧L'=[row v 3 1 (ks.map encZ)]):=by
 refine Tri.enterI (args:=[Value.slice none 0 0,.func (.func 381) #[] #[.pointer (some ⟨gv,0,none⟩)]]) (body:=_) 13 func390 rfl ntmps390 rfl ?_
 intro w0
 refine JI.seq ?_
 refine JI.region ?_
 refine OI.l (Lo.box [Value.slice none 0 0] rfl rfl) rfl ?_
 rintro _ _ ⟨g1,rfl,rfl⟩
 refine OI.p (Pu.assign rfl) rfl ?_
 refine OI.nil ?_
 refine JI.seq ?_
 refine JI.seq ?_
 refine JI.region ?_
 refine OI.p (Pu.move rfl) rfl ?_
 refine OI.nil ?_
 refine JI.block ?_
 refine JI.trim [(2,.pointer (some ⟨g1,0,none⟩)),(4,Value.slice none 0 0),(6,.func (.func 381) #[] #[.pointer (some ⟨gv,0,none⟩)])] ⟨rfl,rfl,rfl,trivial⟩ ?_
 refine JI.nilRow 3 1 ?_
 refine JI.rangeN (gf:=381) (X:=Value×List Int) (Z:=Unit) (fun vs ξ=>KMet m vs ξ.2) (fun ξ=>[var g1 [ξ.1] 60,row ξ.1 3 1 (ξ.2.map encZ)]) (fun x ξ=>x=.ret∧(False)) (fun ξ=>[]) rfl rfl (fun _ _=>by rfl) (ky_381 gv mv m) (fun vs x hx_=>by obtain ⟨_,_,rfl,_⟩:=hx_;rfl) rfl ⟨Value.slice none 0 0,[]⟩ KMet.nil [1,0] (by decide) rfl (fun A hA=>hA) (fun W1 M1 l2 D2 rec2 vs2 y2 x2 hS2 hT2 hy2 hx2=>?_) (fun l2 D2 r2 vs2 y2 hf2 hy2=>?_) (fun l2 D2 r2 x2 y2 hy2=>?_)
 ·
  obtain ⟨e3,hk_e3,rfl,hn_e3⟩:=hx2
  obtain ⟨V,ks⟩:=y2
  have hmet:KMet m vs2 ks:=hy2
  show JI _ _ _ ([(7,.int .i64 e3)]++[(2,.pointer (some ⟨g1,0,none⟩)),(4,Value.slice none 0 0),(6,.func (.func 381) #[] #[.pointer (some ⟨gv,0,none⟩)])]) [blk l2 (.loop (rec2 .ready none)),blk D2 (.deferred (some [])),var g1 [V] 60,row V 3 1 (ks.map encZ)]
  refine JI.region ?_
  refine OI.p (Pu.assign rfl) rfl ?_
  refine OI.nil ?_
  refine JI.begin (hS2 _ _) ?_
  refine JI.block ?_
  refine JI.region ?_
  refine OI.q (Qt.ld rfl (Cel.var 2 rfl) (o:=0) (off:=0) rfl (Cut.one isAgg60 rfl)) rfl ?_
  refine OI.p (Pu.move rfl) rfl ?_
  refine OI.l (Lo.buildM (s:=1) encZ [e3] [(0,.int .i64 e3)] (by exact runUnderlying60) (by exact sizeOf3) (by exact zeroValue3) rfl rfl rfl (by kernel_rfl) rfl rfl) rfl ?_
  rintro V4 _ rfl
  refine OI.l (Lo.appendM (s:=1) 4 (by exact underlying60) (by exact (info3).1) (by exact (info3).2.1) (by exact (info3).2.2.1) (by exact (info3).2.2.2) rfl rfl rfl rfl rfl (Src.row 0 rfl) encZ.one (by have h1_:=hmet.len;first|omega|(simp only [List.length_append,List.length_cons,List.length_nil];omega)) (by have h1_:=hmet.len;first|omega|(simp only [List.length_append,List.length_cons,List.length_nil];omega))) rfl ?_
  rintro V5 _ rfl
  refine OI.one (Src.row 4 rfl) (fun hV6=>?_)
  refine OI.l0 (Lo.store 3 (vs:=[V5]) [V5] rfl rfl rfl (by exact sizeOf60) (one_cells hV6) rfl (one_all hV6) rfl rfl) ?_
  rintro _ _ rfl
  refine OI.nil ?_
  refine JI.blk ?_
  exact RE.nextS (r:={ rec2 .ready none with state:=.busy }) ⟨V5,ks++([e3])⟩ (show KMet m (vs2++[[.int .i64 e3]]) (ks++([e3])) from (hmet.next hk_e3 hn_e3)) rfl [1,2,3,4] (by decide) rfl (hT2 .ready none .ready none)
 ·
  obtain ⟨V,ks⟩:=y2
  have hmet:KMet m vs2 ks:=hy2
  have hperm:=kyFull_of hf2 hmet.1
  show JI _ _ _ [(2,.pointer (some ⟨g1,0,none⟩)),(4,Value.slice none 0 0),(6,.func (.func 381) #[] #[.pointer (some ⟨gv,0,none⟩)])] [blk l2 (.loop r2),blk D2 (.deferred (some [])),var g1 [V] 60,row V 3 1 (ks.map encZ)]
  refine JI.blk ?_
  refine JI.seq ?_
  refine JI.region ?_
  refine OI.q (Qt.ld rfl (Cel.var 2 rfl) (o:=0) (off:=0) rfl (Cut.one isAgg60 rfl)) rfl ?_
  refine OI.p (Pu.assign rfl) rfl ?_
  refine OI.nil ?_
  exact JI.retM (j:=1) rfl rfl rfl (Fin.ret (rs:=[.tmp 4]) rfl [_] ⟨rfl,trivial⟩ [3] (by decide) [row V 3 1 (ks.map encZ)] rfl ⟨ks,⟨hmet.2.1,hperm⟩,rfl⟩)
 ·
  exact hy2.2.elim
theorem w_Collect (gv:Nat) (mv:Value) (m:List (Int×Int)) (hm:m.length≤100000):Tri prog 380 #[.func (.func 381) #[] #[.pointer (some ⟨gv,0,none⟩)]] [var gv [mv] 178,miV mv (Value.int .i64) m] [] (fun v L'=>∃ ks:List Int,(ks.Nodup∧ks.Perm (keysI m))∧L'=[row v 3 1 (ks.map encZ)]):=by
 refine Tri.en func380 H ntmps380 H fun w0=>J.co 7 H<|O.l (Lo.ca call390 (w_AppendSeq gv mv m (by omega)) [] H H (.ro 0 H (.ro 1 H .nil))) H ?_
 rintro v4 _ ⟨_,⟨ks2,hp3,rfl⟩,rfl⟩
 have hperm:=hp3
 refine O.oc 2 H ?_
 exact J.r1 [0] H H H ⟨ks2,hperm,H⟩
theorem w_Sorted (gv:Nat) (mv:Value) (m:List (Int×Int)) (hm:m.length≤100000):Tri prog 357 #[.func (.func 381) #[] #[.pointer (some ⟨gv,0,none⟩)]] [var gv [mv] 178,miV mv (Value.int .i64) m] [] (fun v L'=>L'=[row v 3 1 ((Jb.rising (keysI m)).map encZ)]):=by
 refine Tri.en func357 H ntmps357 H fun w0=>J.co 7 H<|O.l (Lo.ca call380 (w_Collect gv mv m (by omega)) [] H H (.ro 0 H (.ro 1 H .nil))) H ?_
 rintro v4 _ ⟨_,⟨ks2,hp3,rfl⟩,rfl⟩
 have hperm:=hp3
 refine O.oo 5 H<|O.l (Lo.ca call274 (s_Sort v4 ks2 (by first|omega|(have h_:=(hperm.2).length_eq;simp only [keysI,List.length_map] at h_;omega))) [0] H H .nil) H ?_
 rintro _ _ ⟨_,⟨rfl,rfl⟩,rfl⟩
 refine O.oc 6 H ?_
 exact J.r1 [0] H H H (congrArg (fun (z:List Int)=>([row v4 3 1 (z.map encZ)]:List Sp)) (sort_rising hperm.1 hperm.2))
theorem w_New :Tri prog 50 #[] [] [] (fun v L'=>∃ p b o,v=.pointer (some ⟨p,0,none⟩)∧L'=[var p [.map (some b),.map (some o)] 195,mi b (Value.int .i64) ([]),mi o vO ([])]):=by
 refine Tri.en func50 H ntmps50 H fun w0=>J.co 6 H<|O.l (Lo.makeMapI (Value.int .i64)) H ?_
 rintro _ _ ⟨b1,rfl,rfl⟩
 refine O.l (Lo.makeMapI vO) H ?_
 rintro _ _ ⟨b2,rfl,rfl⟩
 refine O.p (Pu.build [(0,.map (some b1)),(1,.map (some b2))] [.map (some b1),.map (some b2)] #[(0,1),(1,1)] runUnderlying195 zeroValue195 (places195 underlying195) H (by kernel_rfl)) H<|O.l (Lo.bx H H) H ?_
 rintro _ _ ⟨g3,rfl,rfl⟩
 refine O.oc 2 H ?_
 exact J.r1 [0,2,1] H H H ⟨g3,b1,b2,H,H⟩
theorem w_Job (p b o:Nat) (pm:List (Int×Int)) (c j:Int) (hI:getI pm c=some j):Tri prog 200 #[.pointer (some ⟨p,0,none⟩),.int .i64 c] [var p [.map (some b),.map (some o)] 195,mi b (Value.int .i64) pm] [] (fun v L'=>v=.tuple #[.int .i64 j,.bool true]∧L'=[]):=by
 refine Tri.en func200 H ntmps200 H fun w0=>J.co 9 H<|O.p (Pu.someEq N87 H) H<|O.oo 8 H<|O.q (Qt.lw 0 A178 H H H) H<|O.oo 1 H<|O.q (Qt.lkOk (V:=.int .i64 j) (q:=true) N178 N3 Y3 H H (Mc.ro 1 b H H) (by rw [hI];rfl) (by rw [hI];rfl)) H<|O.oc 13 H ?_
 exact J.rn [_,_] [] H ⟨H,H,trivial⟩ H ⟨H,H⟩
theorem w_JobNo (p b o:Nat) (pm:List (Int×Int)) (c:Int) (hI:getI pm c=none):Tri prog 200 #[.pointer (some ⟨p,0,none⟩),.int .i64 c] [var p [.map (some b),.map (some o)] 195,mi b (Value.int .i64) pm] [] (fun v L'=>v=.tuple #[.int .i64 0,.bool false]∧L'=[]):=by
 refine Tri.en func200 H ntmps200 H fun w0=>J.co 9 H<|O.p (Pu.someEq N87 H) H<|O.oo 8 H<|O.q (Qt.lw 0 A178 H H H) H<|O.oo 1 H<|O.q (Qt.lkOk (V:=.int .i64 0) (q:=false) N178 N3 Y3 H H (Mc.ro 1 b H H) (by rw [hI];rfl) (by rw [hI];rfl)) H<|O.oc 13 H ?_
 exact J.rn [_,_] [] H ⟨H,H,trivial⟩ H ⟨H,H⟩
theorem w_AddIs (p b o:Nat) (pm:List (Int×Int)) (c j q:Int) (hI:getI pm c=some q):Tri prog 194 #[.pointer (some ⟨p,0,none⟩),.int .i64 c,.int .i64 j] [var p [.map (some b),.map (some o)] 195,mi b (Value.int .i64) pm] [] (fun v L'=>v=.bool false∧L'=[]):=by
 refine Tri.en func194 H ntmps194 H fun w0=>J.co 8 H<|O.p (Pu.someEq N87 H) H<|O.oo 4 H<|O.gz (Qt.lw 0 A178 H H H) H H<|O.gz (Pu.qt (Pu.mapSome N178 H)) H H<|O.oo 10 H<|O.q (Qt.lw 0 A178 H H H) H<|O.oo 1 H<|O.q (Qt.lkOk (V:=.int .i64 q) (q:=true) N178 N3 Y3 H H (Mc.ro 1 b H H) (by rw [hI];rfl) (by rw [hI];rfl)) H<|O.oc 15 H ?_
 exact J.r0 H H ⟨H,H⟩
theorem w_AddHas (p b o:Nat) (pm:List (Int×Int)) (om:List (Int×(Nat×List (Int×Int)))) (R:List Sp) (c j:Int) (x:Nat×List (Int×Int)) (hI:getI pm c=none) (hO:getI om j=some x):Tri prog 194 #[.pointer (some ⟨p,0,none⟩),.int .i64 c,.int .i64 j] [] [mi x.1 (Value.int .i64) x.2,bun R,var p [.map (some b),.map (some o)] 195,mi b (Value.int .i64) pm,mi o vO om] (fun v L'=>v=.bool true∧L'=[mi x.1 (Value.int .i64) (putI x.2 c j),bun R,var p [.map (some b),.map (some o)] 195,mi b (Value.int .i64) (putI pm c j),mi o vO om]):=by
 refine Tri.en func194 H ntmps194 H fun w0=>J.co 8 H<|O.p (Pu.someEq N87 H) H<|O.oo 4 H<|O.gz (Qt.lv 2 A178 H H H) H H<|O.gz (Pu.qt (Pu.mapSome N178 H)) H H<|O.oo 10 H<|O.q (Qt.lv 2 A178 H H H) H<|O.oo 1 H<|O.q (Qt.lkOk (V:=.int .i64 0) (q:=false) N178 N3 Y3 H H (Mc.own 3 b H H) (by rw [hI];rfl) (by rw [hI];rfl)) H<|O.oo 17 H<|O.q (Qt.lv 2 A178 H H H) H<|O.oo 2 H<|O.l0 (Lo.mapPut (u:=j) 3 N178 N3 H H H H) ?_
 rintro _ _ rfl
 refine O.oo 7 H<|O.q (Qt.lv 2 A193 H H H) H<|O.oo 1 H<|O.q (Qt.lkI (V:=.map (some x.1)) N193 N3 Y178 H H (Mc.own 4 o H H) (by rw [hO];rfl)) H<|O.p (Pu.mapSome N178 H) H<|O.oo 8 H<|O.q (Qt.lv 2 A193 H H H) H<|O.oo 1 H<|O.q (Qt.lkI (V:=.map (some x.1)) N193 N3 Y178 H H (Mc.own 4 o H H) (by rw [hO];rfl)) H<|O.oo 2 H<|O.l0 (Lo.mapPut (u:=j) 0 N178 N3 H H H H) ?_
 rintro _ _ rfl
 refine O.oc 5 H ?_
 exact J.r1 [0,1,2,3,4] H H H ⟨H,H⟩
theorem w_AddNew (p b o:Nat) (pm:List (Int×Int)) (om:List (Int×(Nat×List (Int×Int)))) (R:List Sp) (c j:Int) (hI:getI pm c=none) (hO:getI om j=none):Tri prog 194 #[.pointer (some ⟨p,0,none⟩),.int .i64 c,.int .i64 j] [] [bun R,var p [.map (some b),.map (some o)] 195,mi b (Value.int .i64) pm,mi o vO om] (fun v L'=>∃ q,v=.bool true∧L'=[mi q (Value.int .i64) (putI [] c j),bun R,var p [.map (some b),.map (some o)] 195,mi b (Value.int .i64) (putI pm c j),mi o vO (putI om j (q,[]))]):=by
 refine Tri.en func194 H ntmps194 H fun w0=>J.co 8 H<|O.p (Pu.someEq N87 H) H<|O.oo 4 H<|O.gz (Qt.lv 1 A178 H H H) H H<|O.gz (Pu.qt (Pu.mapSome N178 H)) H H<|O.oo 10 H<|O.q (Qt.lv 1 A178 H H H) H<|O.oo 1 H<|O.q (Qt.lkOk (V:=.int .i64 0) (q:=false) N178 N3 Y3 H H (Mc.own 2 b H H) (by rw [hI];rfl) (by rw [hI];rfl)) H<|O.oo 17 H<|O.q (Qt.lv 1 A178 H H H) H<|O.oo 2 H<|O.l0 (Lo.mapPut (u:=j) 2 N178 N3 H H H H) ?_
 rintro _ _ rfl
 refine O.oo 7 H<|O.q (Qt.lv 1 A193 H H H) H<|O.oo 1 H<|O.q (Qt.lkI (V:=Value.map none) N193 N3 Y178 H H (Mc.own 3 o H H) (by rw [hO];rfl)) H<|O.p (Pu.mapNil N178 H) H<|O.oo 6 H<|O.q (Qt.lv 1 A193 H H H) H<|O.oo 1 H<|O.l (Lo.makeMapI (Value.int .i64)) H ?_
 rintro _ _ ⟨b1,rfl,rfl⟩
 refine O.l0 (Lo.mapPut (u:=(b1,[])) 4 N193 N3 H H H H) ?_
 rintro _ _ rfl
 refine O.oo 6 H<|O.q (Qt.lv 2 A193 H H H) H<|O.oo 1 H<|O.q (Qt.lkI (V:=.map (some b1)) N193 N3 Y178 H H (Mc.own 4 o H H) (by rw [getI_putI,if_pos rfl];rfl)) H<|O.oo 2 H<|O.l0 (Lo.mapPut (u:=j) 0 N178 N3 H H H H) ?_
 rintro _ _ rfl
 refine O.oc 5 H ?_
 exact J.r1 [0,1,2,3,4] H H H ⟨b1,H,H⟩
theorem w_TakeNo (p b o:Nat) (pm:List (Int×Int)) (c:Int) (hI:getI pm c=none):Tri prog 94 #[.pointer (some ⟨p,0,none⟩),.int .i64 c] [var p [.map (some b),.map (some o)] 195,mi b (Value.int .i64) pm] [] (fun v L'=>v=.tuple #[.int .i64 0,.bool false]∧L'=[]):=by
 refine Tri.en func94 H ntmps94 H fun w0=>J.co 9 H<|O.l (Lo.ca call200 (w_JobNo p b o pm c hI) [] H H (.ro 0 H (.ro 1 H .nil))) H ?_
 rintro _ _ ⟨_,⟨rfl,rfl⟩,rfl⟩
 refine O.oc 18 H ?_
 exact J.rn [_,_] [] H ⟨H,H,trivial⟩ H ⟨H,H⟩
theorem w_TakeMore (p b o:Nat) (pm:List (Int×Int)) (om:List (Int×(Nat×List (Int×Int)))) (R:List Sp) (c j:Int) (x:Nat×List (Int×Int)) (hI:getI pm c=some j) (hO:getI om j=some x) (hd:delI x.2 c≠[]):Tri prog 94 #[.pointer (some ⟨p,0,none⟩),.int .i64 c] [] [mi x.1 (Value.int .i64) x.2,bun R,var p [.map (some b),.map (some o)] 195,mi b (Value.int .i64) pm,mi o vO om] (fun v L'=>v=.tuple #[.int .i64 j,.bool true]∧L'=[mi x.1 (Value.int .i64) (delI x.2 c),bun R,var p [.map (some b),.map (some o)] 195,mi b (Value.int .i64) (delI pm c),mi o vO om]):=by
 refine Tri.en func94 H ntmps94 H fun w0=>J.co 9 H<|O.l (Lo.ca call200 (w_Job p b o pm c j hI) [] H H (.own 2 H H (.own 3 H H .nil))) H ?_
 rintro _ _ ⟨_,⟨rfl,rfl⟩,rfl⟩
 refine O.oo 19 H<|O.q (Qt.lv 2 A178 H H H) H<|O.oo 1 H<|O.l0 (Lo.mapDel 3 H N178 N3 H H H) ?_
 rintro _ _ rfl
 refine O.oo 6 H<|O.q (Qt.lv 2 A193 H H H) H<|O.oo 1 H<|O.q (Qt.lkI (V:=.map (some x.1)) N193 N3 Y178 H H (Mc.own 4 o H H) (by rw [hO];rfl)) H<|O.oo 1 H<|O.l0 (Lo.mapDel 0 H N178 N3 H H H) ?_
 rintro _ _ rfl
 refine O.oo 7 H<|O.q (Qt.lv 2 A193 H H H) H<|O.oo 1 H<|O.q (Qt.lkI (V:=.map (some x.1)) N193 N3 Y178 H H (Mc.own 4 o H H) (by rw [hO];rfl)) H<|O.q (Qt.lenI H N178 H (Mc.own 0 x.1 H H)) H<|O.oc 2 H<|J.condF H (decide_eq_false (by have h_:=List.length_pos_iff.2 hd;omega))<|J.cc 7 H ?_
 exact J.rn [_,_] [0,1,2,3,4] H ⟨H,H,trivial⟩ H ⟨H,H⟩
theorem w_TakeLast (p b o:Nat) (pm:List (Int×Int)) (om:List (Int×(Nat×List (Int×Int)))) (R:List Sp) (c j:Int) (x:Nat×List (Int×Int)) (hI:getI pm c=some j) (hO:getI om j=some x) (hd:delI x.2 c=[]):Tri prog 94 #[.pointer (some ⟨p,0,none⟩),.int .i64 c] [] [mi x.1 (Value.int .i64) x.2,bun R,var p [.map (some b),.map (some o)] 195,mi b (Value.int .i64) pm,mi o vO om] (fun v L'=>v=.tuple #[.int .i64 j,.bool true]∧L'=[bun R,var p [.map (some b),.map (some o)] 195,mi b (Value.int .i64) (delI pm c),mi o vO (delI om j)]):=by
 refine Tri.en func94 H ntmps94 H fun w0=>J.co 9 H<|O.l (Lo.ca call200 (w_Job p b o pm c j hI) [] H H (.own 2 H H (.own 3 H H .nil))) H ?_
 rintro _ _ ⟨_,⟨rfl,rfl⟩,rfl⟩
 refine O.oo 19 H<|O.q (Qt.lv 2 A178 H H H) H<|O.oo 1 H<|O.l0 (Lo.mapDel 3 H N178 N3 H H H) ?_
 rintro _ _ rfl
 refine O.oo 6 H<|O.q (Qt.lv 2 A193 H H H) H<|O.oo 1 H<|O.q (Qt.lkI (V:=.map (some x.1)) N193 N3 Y178 H H (Mc.own 4 o H H) (by rw [hO];rfl)) H<|O.oo 1 H<|O.l0 (Lo.mapDel 0 H N178 N3 H H H) ?_
 rintro _ _ rfl
 refine O.oo 7 H<|O.q (Qt.lv 2 A193 H H H) H<|O.oo 1 H<|O.q (Qt.lkI (V:=.map (some x.1)) N193 N3 Y178 H H (Mc.own 4 o H H) (by rw [hO];rfl)) H<|O.q (Qt.lenI H N178 H (Mc.own 0 x.1 H H)) H<|O.oc 2 H<|J.condT H (decide_eq_true (by rw [hd];rfl))<|J.co 4 H<|O.q (Qt.lv 2 A193 H H H) H<|O.oo 1 H<|O.l0 (Lo.mapDel 4 H N193 N3 H H H) ?_
 rintro _ _ rfl
 refine O.oc 7 H ?_
 exact J.rn [_,_] [1,2,3,4] H ⟨H,H,trivial⟩ H ⟨H,H⟩
theorem w_Of (p b o:Nat) (om:List (Int×(Nat×List (Int×Int)))) (j:Int) (x:Nat×List (Int×Int)) (hO:getI om j=some x) (hl:x.2.length≤100000):Tri prog 327 #[.pointer (some ⟨p,0,none⟩),.int .i64 j] [var p [.map (some b),.map (some o)] 195,mi o vO om,mi x.1 (Value.int .i64) x.2] [] (fun v L'=>L'=[row v 3 1 ((Jb.rising (keysI x.2)).map encZ)]):=by
 refine Tri.en func327 H ntmps327 H fun w0=>J.co 8 H<|O.p (Pu.someEq N87 H) H<|O.oo 8 H<|O.q (Qt.lw 0 A193 H H H) H<|O.oo 1 H<|O.q (Qt.lkI (V:=.map (some x.1)) N193 N3 Y178 H H (Mc.ro 1 o H H) (by rw [hO];rfl)) H<|O.l (Lo.ca call358 (w_Keys (.map (some x.1)) H) [] H H .nil) H ?_
 rintro _ _ ⟨_,⟨g1,rfl,rfl⟩,rfl⟩
 refine O.l (Lo.ca call357 (w_Sorted g1 (.map (some x.1)) x.2 (by omega)) [] H H (.own 0 H H (.rc 2 mi_miV H .nil))) H ?_
 rintro v3 _ ⟨_,rfl,rfl⟩
 refine O.oc 2 H ?_
 exact J.r1 [0] H H H H
theorem w_OfNo (p b o:Nat) (om:List (Int×(Nat×List (Int×Int)))) (j:Int) (hO:getI om j=none):Tri prog 327 #[.pointer (some ⟨p,0,none⟩),.int .i64 j] [var p [.map (some b),.map (some o)] 195,mi o vO om] [] (fun v L'=>L'=[row v 3 1 (([]:List Int).map encZ)]):=by
 refine Tri.en func327 H ntmps327 H fun w0=>J.co 8 H<|O.p (Pu.someEq N87 H) H<|O.oo 8 H<|O.q (Qt.lw 0 A193 H H H) H<|O.oo 1 H<|O.q (Qt.lkI (V:=Value.map none) N193 N3 Y178 H H (Mc.ro 1 o H H) (by rw [hO];rfl)) H<|O.l (Lo.ca call358 (w_Keys (Value.map none) H) [] H H .nil) H ?_
 rintro _ _ ⟨_,⟨g1,rfl,rfl⟩,rfl⟩
 refine O.l (Lo.call [.func (.func 381) #[] #[.pointer (some ⟨g1,0,none⟩)]] call357 H (w_Sorted g1 (Value.map none) ([]) (by simp)) [] [0] (by decide) H [var g1 [Value.map none] 178] H (RoOk.of 0 H same_rd [] (by decide) H (RoOk.nilM RoOk.nil))) H ?_
 rintro v3 _ ⟨_,rfl,rfl⟩
 refine O.oc 2 H ?_
 exact J.r1 [0] H H H H
theorem w_Clear (p b o:Nat) (pm:List (Int×Int)) (om:List (Int×(Nat×List (Int×Int)))) (R:List Sp):Tri prog 110 #[.pointer (some ⟨p,0,none⟩)] [] [bun R,var p [.map (some b),.map (some o)] 195,mi b (Value.int .i64) pm,mi o vO om] (fun v L'=>v=.tuple #[]∧L'=[var p [.map (some b),.map (some o)] 195,mi b (Value.int .i64) ([]),mi o vO ([])]):=by
 refine Tri.en func110 H ntmps110 H fun w0=>J.co 3 H<|O.p (Pu.ptrNe N87 H) H<|O.oo 7 H<|O.q (Qt.lv 1 A178 H H H) H<|O.l0 (Lo.mapClear 2 H N178 H H) ?_
 rintro _ _ rfl
 refine O.oo 5 H<|O.q (Qt.lv 1 A193 H H H) H<|O.l0 (Lo.mapClear 3 H N193 H H) ?_
 rintro _ _ rfl
 refine O.nil ?_
 exact J.dn [] [1,2,3] H trivial H ⟨H,H⟩
theorem wt_Of (p:Nat) (s:Ws) (x:List Pr) (hR:Wt.Rep x s) (j:Int) (hl:x.length≤100000):Tri prog 327 #[.pointer (some ⟨p,0,none⟩),.int .i64 j] [wt 195 p s] [] (fun v L'=>L'=[row v 3 1 ((Wt.ofJ x j).map encZ)]):=by
  cases hv:getI s.om j with
  | none =>
    rw [hR.noJob hv]
    exact (w_OfNo p s.b s.o s.om j hv).roFrom (by intro A hA;simp only [List.mem_cons,List.not_mem_nil,or_false] at hA;rcases hA with rfl|rfl<;>exact wt_at (by simp [Ws.L]))
  | some v =>
    rw [←hR.keys hv]
    have hk:=hR.ofS j v hv
    refine (w_Of p s.b s.o s.om j v hv ?_).roFrom ?_
    · have h1:(keysI v.2).length≤(Wt.calls x).length:=nodup_len hk.1 fun c hc=>Wt.jobOf_mem.1 ⟨j,(hk.2.2 c).1 hc⟩
      simp only [keysI,Wt.calls,List.length_map] at h1
      omega
    · intro A hA
      simp only [List.mem_cons,List.not_mem_nil,or_false] at hA
      rcases hA with rfl|rfl|rfl
      · exact wt_at (by simp [Ws.L])
      · exact wt_at (by simp [Ws.L])
      · exact wt_in (getI_some hv)
theorem wt_Add (p:Nat) (s:Ws) (x:List Pr) (hR:Wt.Rep x s) (c j:Int):Tri prog 194 #[.pointer (some ⟨p,0,none⟩),.int .i64 c,.int .i64 j] [] [wt 195 p s] (fun v L'=>v=.bool (!(Wt.jobOf x c).isSome)∧∃ s',Wt.Rep (Wt.add x c j) s'∧L'=[wt 195 p s']):=by
  cases hc:Wt.jobOf x c with
  | some q =>
    refine (w_AddIs p s.b s.o s.pm c j q (by rw [hR.by_,hc])).readOwn (by intro A hA;simp only [List.mem_cons,List.not_mem_nil,or_false] at hA;rcases hA with rfl|rfl<;>exact wt_at (by simp [Ws.L])) ?_
    rintro v L1 ⟨rfl,rfl⟩
    exact ⟨rfl,s,by rw [Wt.add,hc];exact hR,rfl⟩
  | none =>
    have ha:Wt.add x c j=Wt.ins x c j:=by rw [Wt.add,hc];rfl
    rw [ha]
    cases hv:getI s.om j with
    | some v =>
      obtain ⟨R,h1,h2,_⟩:=wt_open (T:=195) (p:=p) hR.on hv
      refine (w_AddHas p s.b s.o s.pm s.om R c j v (by rw [hR.by_,hc]) hv).conv h1 ?_
      rintro w L' ⟨rfl,rfl⟩
      exact ⟨_,⟨rfl,_,hR.addHas hc hv,rfl⟩,h2 _ _⟩
    | none =>
      refine (w_AddNew p s.b s.o s.pm s.om (s.om.map inA) c j (by rw [hR.by_,hc]) hv).conv wt_lay ?_
      rintro w L' ⟨q,rfl,rfl⟩
      exact ⟨_,⟨rfl,_,hR.addNew (b:=q) hc hv,rfl⟩,wt_more hv q _ _ _⟩
theorem wt_Take (p:Nat) (s:Ws) (x:List Pr) (hR:Wt.Rep x s) (c:Int):Tri prog 94 #[.pointer (some ⟨p,0,none⟩),.int .i64 c] [] [wt 195 p s] (fun v L'=>v=.tuple #[.int .i64 ((Wt.jobOf x c).getD 0),.bool (Wt.jobOf x c).isSome]∧∃ s',Wt.Rep (Wt.without x c) s'∧L'=[wt 195 p s']):=by
  cases hc:Wt.jobOf x c with
  | none =>
    refine (w_TakeNo p s.b s.o s.pm c (by rw [hR.by_,hc])).readOwn (by intro A hA;simp only [List.mem_cons,List.not_mem_nil,or_false] at hA;rcases hA with rfl|rfl<;>exact wt_at (by simp [Ws.L])) ?_
    rintro v L1 ⟨rfl,rfl⟩
    have hw:Wt.without x c=x:=List.filter_eq_self.2 fun q hq=>by
      have:q.call≠c:=fun e=>Wt.jobOf_none.1 hc (List.mem_map.2 ⟨q,hq,e⟩)
      simp [this]
    exact ⟨rfl,s,by rw [hw];exact hR,rfl⟩
  | some j =>
    obtain ⟨v,hv,hcv⟩:=hR.hasJob hc
    obtain ⟨R,h1,h2,h3⟩:=wt_open (T:=195) (p:=p) hR.on hv
    rcases Decidable.em (delI v.2 c=[]) with hd|hd
    · refine (w_TakeLast p s.b s.o s.pm s.om R c j v (by rw [hR.by_,hc]) hv hd).conv h1 ?_
      rintro w L' ⟨rfl,rfl⟩
      exact ⟨_,⟨rfl,_,hR.takeLast hc hv hd,rfl⟩,h3 _⟩
    · refine (w_TakeMore p s.b s.o s.pm s.om R c j v (by rw [hR.by_,hc]) hv hd).conv h1 ?_
      rintro w L' ⟨rfl,rfl⟩
      exact ⟨_,⟨rfl,_,hR.takeMore hc hv hd,rfl⟩,h2 _ _⟩
theorem wt_Clear (p:Nat) (s:Ws):Tri prog 110 #[.pointer (some ⟨p,0,none⟩)] [] [wt 195 p s] (fun v L'=>v=.tuple #[]∧∃ s',Wt.Rep [] s'∧L'=[wt 195 p s']):=by
 refine (w_Clear p s.b s.o s.pm s.om (s.om.map inA)).conv wt_lay ?_
 rintro w L' ⟨rfl,rfl⟩
 exact ⟨_,⟨rfl,_,Wt.Rep.new,rfl⟩,wt_none⟩
theorem wt_New:Tri prog 50 #[] [] [] (fun v L'=>∃ p s,v=.pointer (some ⟨p,0,none⟩)∧L'=[wt 195 p s]∧Wt.Rep [] s):=by
 refine w_New.conv (Re.refl []) ?_
 rintro w L' ⟨p,b,o,rfl,rfl⟩
 exact ⟨_,⟨p,_,rfl,rfl,Wt.Rep.new⟩,wt_none⟩
theorem wt_Drop (p:Nat) (s:Ws) (x:List Pr) (hR:Wt.Rep x s) (j:Int) (hl:x.length≤100000):Tri prog 273 #[.pointer (some ⟨p,0,none⟩),.int .i64 j] [] [wt 195 p s] (fun v L'=>∃ s',Wt.Rep (Wt.drop x j) s'∧L'=[row v 3 1 ((Wt.ofJ x j).map encZ),wt 195 p s']):=by
 refine Tri.en func273 H ntmps273 H fun w0=>J.co 8 H<|O.l (Lo.ca call327 (wt_Of p s x hR j (by omega)) [] H H (.own 0 H H .nil)) H ?_
 rintro v1 _ ⟨_,rfl,rfl⟩
 refine O.oo 6 H<|O.q (Qt.lenM U60 H (Src.row 0 H)) H<|O.oc 3 H ?_
 refine J.lo (X:=Nat×Ws) (fun (k,s1)=>k≤(Wt.ofJ x j).length∧Wt.Rep (Wt.cut x (Wt.ofJ x j) k) s1) (fun (k,s1)=>[(13,.int .i64 (k:Int))]) (fun (k,s1)=>[wt 195 p s1]) (fun (k,s1)=>(Wt.ofJ x j).length-k) ⟨0,s⟩ [0,4,5,11,12] [1] [0] ⟨by omega,hR⟩ ⟨(eqi (by omega)),trivial⟩ H H ?_
 rintro ⟨k,s1⟩ ⟨hk,hR1⟩
 refine J.cc 5 H ?_
 refine J.cd H (fun p2=>?_) (fun p2=>?_)
 ·
  refine J.co 5 H ?_
  obtain ⟨e3,he3⟩:=ex_at (l:=Wt.ofJ x j) (i:=k) (by omega)
  refine O.q (Qt.ix U60 Z3 H (Src.row 1 H) he3 H (by rfl)) H<|O.q (Qt.le A3 (Src.row 1 H) he3 0 H (by omega) H) H<|O.oo 5 H<|O.l (Lo.ca call94 (wt_Take p s1 (Wt.cut x (Wt.ofJ x j) k) hR1 e3) [0] H H .nil) H ?_
  rintro _ _ ⟨_,⟨rfl,s4,hR5,rfl⟩,rfl⟩
  have hns4:(Wt.without (Wt.cut x (Wt.ofJ x j) k) e3).length≤(Wt.cut x (Wt.ofJ x j) k).length+1:=by first|omega|exact Nat.le_of_eq Wt.ins_len|exact Nat.le_succ_of_le Wt.without_len|exact Nat.le_succ_of_le Wt.drop_len|(simp;done)|(unfold Wt.add;split<;>first|omega|exact Nat.le_of_eq Wt.ins_len)
  refine O.oo 3 H<|O.p (Pu.add' H H (by first|omega|(have h_:=Wt.ofJ_len (l:=x) (j:=j);omega))) H<|O.oc 2 H ?_
  exact J.lq ⟨k+1,s4⟩ [0,4,5,11,12] [0] [1] ⟨by omega,(by rw [Wt.cut_next he3];exact hR5)⟩ (by dsimp only;omega) ⟨(eqi (by omega)),trivial⟩ H H
 refine J.cc 6 H ?_
 exact J.r1 [1,0] H H H ⟨s1,(by rw [←Wt.cut_drop hR.up (k:=k) (by omega)];exact hR1),H⟩
def ctL (N:Nd.Nc) (k:Nd.Kt):List Sp:=[var N.c [.pointer (some ⟨N.u,0,none⟩),.pointer (some ⟨N.d,0,none⟩),.int .i64 N.lev,.int .i64 N.tiers,.int .i64 k.k0,.int .i64 k.k1,.int .i64 k.k2,.int .i64 k.k3,.int .i64 k.k4,.int .i64 k.k5,.int .i64 k.k6,.pointer (some ⟨N.h,0,none⟩),.pointer (some ⟨N.l,0,none⟩),.int .i64 k.thr,.int .i64 k.ep] 172,var N.u [.int .i64 k.way,.int .i64 k.held] 309,var N.d [.bool true,.int .i64 N.tiers,.int .i64 k.tier,.int .i64 k.dheld] 296,var N.h ([Value.int .i64 N.lev]++k.hl.map (Value.int .i64)) 302,var N.l [.int .i64 k.lm,.int .i64 k.ls,.int .i64 k.lw] 311]
def ct (N:Nd.Nc) (k:Nd.Kt):Sp:=bun (ctL N k)
theorem ct_Threshold (N:Nd.Nc) (k:Nd.Kt):Tri prog 44 #[.pointer (some ⟨N.c,0,none⟩)] [ct N k] [] (fun v L'=>v=.int .i64 k.thr∧L'=[]):=(co_Threshold N.c N.u N.d N.h N.l N.lev N.tiers k.k0 k.k1 k.k2 k.k3 k.k4 k.k5 k.k6 k.thr k.ep).roB (.at 0 rfl .nil)
theorem ct_Epoch (N:Nd.Nc) (k:Nd.Kt):Tri prog 43 #[.pointer (some ⟨N.c,0,none⟩)] [ct N k] [] (fun v L'=>v=.int .i64 k.ep∧L'=[]):=(co_Epoch N.c N.u N.d N.h N.l N.lev N.tiers k.k0 k.k1 k.k2 k.k3 k.k4 k.k5 k.k6 k.thr k.ep).roB (.at 0 rfl .nil)
theorem ct_Tier (N:Nd.Nc) (k:Nd.Kt):Tri prog 45 #[.pointer (some ⟨N.c,0,none⟩)] [ct N k] [] (fun v L'=>v=.int .i64 k.tier∧L'=[]):=(co_Tier N.c N.u N.d N.h N.l N.lev N.tiers k.k0 k.k1 k.k2 k.k3 k.k4 k.k5 k.k6 k.thr k.ep N.tiers k.tier k.dheld).roB (.at 0 rfl (.at 2 rfl .nil))
theorem ct_Push (N:Nd.Nc) (k:Nd.Kt) (m0 m1 m2 m3 m4 m5 m6:Int) (hk:k.Ok N):Tri prog 100 #[.pointer (some ⟨N.c,0,none⟩),.agg #[.int .i64 m0,.int .i64 m1,.int .i64 m2,.int .i64 m3,.int .i64 m4,.int .i64 m5,.int .i64 m6]] [] [ct N k] (fun v L'=>∃ k',k'.Ok N∧k.Same k'∧v=.int .i64 (Kn.check [m0,m1,m2,m3,m4,m5,m6] N.lev)∧L'=[ct N k']):=by
 refine (((co_Push N.c N.u N.d N.h N.l N.lev N.tiers k.k0 k.k1 k.k2 k.k3 k.k4 k.k5 k.k6 k.thr k.ep m0 m1 m2 m3 m4 m5 m6).weak (post:=fun v L'=>∃ n0 n1 n2 n3 n4 n5 n6,v=.int .i64 (Kn.check [m0,m1,m2,m3,m4,m5,m6] N.lev)∧L'=[var N.c [.pointer (some ⟨N.u,0,none⟩),.pointer (some ⟨N.d,0,none⟩),.int .i64 N.lev,.int .i64 N.tiers,.int .i64 n0,.int .i64 n1,.int .i64 n2,.int .i64 n3,.int .i64 n4,.int .i64 n5,.int .i64 n6,.pointer (some ⟨N.h,0,none⟩),.pointer (some ⟨N.l,0,none⟩),.int .i64 k.thr,.int .i64 k.ep] 172]) fun v L' h=>by rcases h with ⟨rfl,rfl⟩|⟨rfl,h,rfl⟩;exact ⟨k.k0,k.k1,k.k2,k.k3,k.k4,k.k5,k.k6,rfl,rfl⟩;exact ⟨m0,m1,m2,m3,m4,m5,m6,by rw [h],rfl⟩)).frame.conv (Re.trans Re.bunOut1 (Re.sn [0,1,2,3,4] rfl)) ?_
 rintro v _ ⟨L1,rfl,n0,n1,n2,n3,n4,n5,n6,rfl,rfl⟩
 exact ⟨_,⟨{ k with k0:=n0,k1:=n1,k2:=n2,k3:=n3,k4:=n4,k5:=n5,k6:=n6 },{ hk with },Nd.Kt.Same.of rfl rfl rfl,rfl,rfl⟩,Re.trans (Re.sn [0,1,2,3,4] rfl) Re.bunIn1⟩
theorem ct_Passes (N:Nd.Nc) (k:Nd.Kt) (x:Int):Tri prog 179 #[.pointer (some ⟨N.c,0,none⟩),.int .i64 x] [ct N k] [] (fun v L'=>v=.bool (Sh.passes x k.thr)∧L'=[]):=(co_Passes N.c N.u N.d N.h N.l N.lev N.tiers k.k0 k.k1 k.k2 k.k3 k.k4 k.k5 k.k6 k.thr k.ep x).roB (.at 0 rfl .nil)
theorem ct_Saw (N:Nd.Nc) (k:Nd.Kt) (x:Int) (hN:N.Ok) (hk:k.Ok N):Tri prog 81 #[.pointer (some ⟨N.c,0,none⟩),.int .i64 x] [] [ct N k] (fun v L'=>∃ k',k'.Ok N∧k.Same k'∧v=.bool (Nd.hasL N.lev x)∧L'=[ct N k']):=by
 refine (co_Saw N.c N.u N.d N.h N.l N.lev N.tiers k.k0 k.k1 k.k2 k.k3 k.k4 k.k5 k.k6 k.thr k.ep k.hl x hk.hn (by have:=hN.hv0;omega) hN.hv1).frame.conv (Re.trans Re.bunOut1 (Re.sn [0,3,1,2,4] rfl)) ?_
 rintro v _ ⟨L1,rfl,l2,rfl,hn,rfl⟩
 exact ⟨_,⟨{ k with hl:=l2 },{ hk with hn:=hn },Nd.Kt.Same.of rfl rfl rfl,rfl,rfl⟩,Re.trans (Re.sn [0,2,3,1,4] rfl) Re.bunIn1⟩
theorem ct_Waited (N:Nd.Nc) (k:Nd.Kt) (x:Int) (hN:N.Ok) (hk:k.Ok N):Tri prog 188 #[.pointer (some ⟨N.c,0,none⟩),.int .i64 x] [] [ct N k] (fun v L'=>∃ k',k'.Ok N∧k.Same k'∧v=.tuple #[]∧L'=[ct N k']):=by
 refine (co_Waited N.c N.u N.d N.h N.l N.lev N.tiers k.k0 k.k1 k.k2 k.k3 k.k4 k.k5 k.k6 k.thr k.ep k.lm k.ls k.lw x).frame.conv (Re.trans Re.bunOut1 (Re.sn [0,4,1,2,3] rfl)) ?_
 rintro v _ ⟨L1,rfl,rfl,a,b,e,rfl⟩
 exact ⟨_,⟨{ k with lm:=a,ls:=b,lw:=e },{ hk with },Nd.Kt.Same.of rfl rfl rfl,rfl,rfl⟩,Re.trans (Re.sn [0,2,3,4,1] rfl) Re.bunIn1⟩
theorem ct_Restart (N:Nd.Nc) (k:Nd.Kt) (hN:N.Ok) (hk:k.Ok N):Tri prog 113 #[.pointer (some ⟨N.c,0,none⟩)] [] [ct N k] (fun v L'=>∃ k',k'.Ok N∧k'.thr=N.lev∧k'.ep=Sh.keep (k.ep+1) 4294967295∧k'.tier=N.tiers∧v=.tuple #[]∧L'=[ct N k']):=by
 refine (co_Restart N.c N.u N.d N.h N.l N.lev N.tiers k.k0 k.k1 k.k2 k.k3 k.k4 k.k5 k.k6 k.thr k.ep k.way k.held k.tier k.dheld k.lm k.ls k.lw k.hl hk.hn hk.he0 hk.he1).frame.conv (Re.trans Re.bunOut1 (Re.sn [0,1,2,3,4] rfl)) ?_
 rintro v _ ⟨L1,rfl,rfl,rfl⟩
 exact ⟨_,⟨{ k with thr:=N.lev,ep:=Sh.keep (k.ep+1) 4294967295,way:=0,held:=0,tier:=N.tiers,dheld:=32,hl:=List.replicate 128 0,lm:=0,ls:=0,lw:=0 },⟨List.length_replicate,(by have:=hN.hv0;show 0≤N.lev;omega),Int.le_refl _,(Sh.keep_bnd _ (by decide)).1,(Sh.keep_bnd _ (by decide)).2,(show (-1:Int)≤0 from by decide),(show (0:Int)≤1 from by decide),hN.ht0,Int.le_refl _⟩,rfl,rfl,rfl,rfl,rfl⟩,Re.trans (Re.sn [0,1,2,3,4] rfl) Re.bunIn1⟩
theorem ct_Close (N:Nd.Nc) (k:Nd.Kt) (hN:N.Ok) (hk:k.Ok N):Tri prog 106 #[.pointer (some ⟨N.c,0,none⟩)] [] [ct N k] (fun v L'=>∃ (k':Nd.Kt) (vd:Int) (b1 b2:Bool),k'.Ok N∧k.Moved k'∧v=.agg #[.int .i64 vd,.int .i64 k'.thr,.int .i64 k'.tier,.int .i64 k'.ep,.bool b1,.bool b2]∧L'=[ct N k']):=by
 refine (co_Close N.c N.u N.d N.h N.l N.lev N.tiers k.k0 k.k1 k.k2 k.k3 k.k4 k.k5 k.k6 k.thr k.ep k.way k.held k.tier k.dheld k.lm k.ls k.lw k.hl hk.hn (by have:=hN.hv0;omega) hN.hv1 hk.hp0 hk.hp1 hk.he0 hk.he1 hk.hw0 hk.hw1 hk.ht0 hk.ht1 hN.ht2).frame.conv (Re.trans Re.bunOut1 (Re.sn [0,1,2,3,4] rfl)) ?_
 rintro v _ ⟨L1,rfl,b1,b2,vd,t2,e2,w2,h2,r2,g2,rfl,ht,hm,hw,hr,rfl⟩
 exact ⟨_,⟨{ k with thr:=t2,ep:=e2,way:=w2,held:=h2,tier:=r2,dheld:=g2,hl:=List.replicate 128 0,lm:=0,ls:=0,lw:=0 },vd,b1,b2,⟨List.length_replicate,ht.1,ht.2,(Nd.moved_ep hm hk.he0 hk.he1).1,(Nd.moved_ep hm hk.he0 hk.he1).2,hw.1,hw.2,hr.1,hr.2⟩,Nd.Kt.Moved.of hm,rfl,rfl⟩,Re.trans (Re.sn [0,1,2,3,4] rfl) Re.bunIn1⟩
def quL (N:Nd.Nc) (q:Nd.Qu):List Sp:=[var N.q [.pointer (some ⟨N.p,0,none⟩),.int .i64 N.qn] 206,var N.p [.map (some N.qb),.int .i64 N.qn,q.V] 294,row q.V 66 7 (q.t.map Im.cells),mi N.qb (Value.int .i64) q.m]
def qu (N:Nd.Nc) (q:Nd.Qu):Sp:=bun (quL N q)
theorem qw_Has (N:Nd.Nc) (q:Nd.Qu) (id:Int) (hN:N.Ok) (hq:q.Ok N):Tri prog 176 #[.pointer (some ⟨N.q,0,none⟩),.int .i64 id] [qu N q] [] (fun v L'=>v=.bool (getI q.m id).isSome∧L'=[]):=(qu_Has N.q N.p N.qb q.V N.qn q.t q.m id (by have h1_:=hq.hl;have h2_:=hN.hq1;omega) hq.hk).roB (.at 0 rfl (.at 1 rfl (.of 2 rfl row_rd (.at 3 rfl .nil))))
theorem qw_All (N:Nd.Nc) (q:Nd.Qu) (hN:N.Ok) (hq:q.Ok N):Tri prog 40 #[.pointer (some ⟨N.q,0,none⟩)] [qu N q] [] (fun v L'=>∃ o:List Im,o.Perm q.t∧L'=[row v 66 7 (o.map Im.cells)]):=(qu_All N.q N.p N.qb q.V N.qn q.t (by have h1_:=hq.hl;have h2_:=hN.hq1;omega)).roB (.at 0 rfl (.at 1 rfl (.of 2 rfl row_rd .nil)))
theorem qw_Add (N:Nd.Nc) (q:Nd.Qu) (x:Im) (hN:N.Ok) (hq:q.Ok N) (hno:∀ y∈q.t,y.id≠x.id) (h:(q.t.length:Int) < N.qn):Tri prog 182 #[.pointer (some ⟨N.q,0,none⟩),.agg #[.int .i64 x.id,.int .i64 x.level,.int .i64 x.from_,.int .i64 x.deadline,.int .i64 x.budget,.int .i64 x.since,.int .i64 x.seq]] [] [qu N q] (fun v L'=>∃ q',q'.Ok N∧q'.t.Perm (x :: q.t)∧v=.tuple #[.agg #[.int .i64 Im.zero.id,.int .i64 Im.zero.level,.int .i64 Im.zero.from_,.int .i64 Im.zero.deadline,.int .i64 Im.zero.budget,.int .i64 Im.zero.since,.int .i64 Im.zero.seq],.bool false,.int .i64 0]∧L'=[qu N q']):=by
 refine (qu_Add N.q N.p N.qb q.V N.qn q.t q.m x (by have h1_:=hq.hl;have h2_:=hN.hq1;omega) hq.hk (hq.hk.noneIff.2 hno) h).frame.conv (Re.trans Re.bunOut1 (Re.sn [0,1,2,3] rfl)) ?_
 rintro v _ ⟨L1,rfl,V',t',m',rfl,hp,hk,rfl⟩
 exact ⟨_,⟨⟨V',t',m'⟩,⟨hk,(by have h1_:=hp.length_eq;simp only [List.length_cons] at h1_;show (t'.length:Int)≤_;omega)⟩,hp,rfl,rfl⟩,Re.trans (Re.sn [0,1,2,3] rfl) Re.bunIn1⟩
theorem qw_AddFull (N:Nd.Nc) (q:Nd.Qu) (x:Im) (hN:N.Ok) (hq:q.Ok N) (hno:∀ y∈q.t,y.id≠x.id) (h:¬(q.t.length:Int) < N.qn):Tri prog 182 #[.pointer (some ⟨N.q,0,none⟩),.agg #[.int .i64 x.id,.int .i64 x.level,.int .i64 x.from_,.int .i64 x.deadline,.int .i64 x.budget,.int .i64 x.since,.int .i64 x.seq]] [] [qu N q] (fun v L'=>∃ q' y,q'.Ok N∧(y :: q'.t).Perm (x :: q.t)∧(∀ z∈q'.t,z.level≤y.level)∧v=.tuple #[.agg #[.int .i64 y.id,.int .i64 y.level,.int .i64 y.from_,.int .i64 y.deadline,.int .i64 y.budget,.int .i64 y.since,.int .i64 y.seq],.bool true,.int .i64 0]∧L'=[qu N q']):=by
 refine (qu_AddFull N.q N.p N.qb q.V N.qn q.t q.m x (by have h1_:=hq.hl;have h2_:=hN.hq1;omega) hq.hk (hq.hk.noneIff.2 hno) (by have h1_:=hq.hl;omega) (by have h1_:=hN.hq0;omega)).frame.conv (Re.trans Re.bunOut1 (Re.sn [0,1,2,3] rfl)) ?_
 rintro v _ ⟨L1,rfl,V',t',m',y,rfl,hp,hz,hk,rfl⟩
 exact ⟨_,⟨⟨V',t',m'⟩,y,⟨hk,(by have h1_:=hp.length_eq;simp only [List.length_cons] at h1_;have h2_:=hq.hl;show (t'.length:Int)≤_;omega)⟩,hp,hz,rfl,rfl⟩,Re.trans (Re.sn [0,1,2,3] rfl) Re.bunIn1⟩
theorem qw_Next (N:Nd.Nc) (q:Nd.Qu) (hN:N.Ok) (hq:q.Ok N) (h:q.t≠[]):Tri prog 184 #[.pointer (some ⟨N.q,0,none⟩)] [] [qu N q] (fun v L'=>∃ q' x,q'.Ok N∧q.t.Perm (x :: q'.t)∧v=.tuple #[.agg #[.int .i64 x.id,.int .i64 x.level,.int .i64 x.from_,.int .i64 x.deadline,.int .i64 x.budget,.int .i64 x.since,.int .i64 x.seq],.bool true]∧L'=[qu N q']):=by
 refine (qu_Next N.q N.p N.qb q.V N.qn q.t q.m (by have h1_:=hq.hl;have h2_:=hN.hq1;omega) hq.hk (List.length_pos_iff.2 h)).frame.conv (Re.trans Re.bunOut1 (Re.sn [0,1,2,3] rfl)) ?_
 rintro v _ ⟨L1,rfl,x,V',t',m',rfl,hx,hp,hk,rfl⟩
 exact ⟨_,⟨⟨V',t',m'⟩,x,⟨hk,(by have h1_:=hp.length_eq;simp only [List.length_cons] at h1_;have h2_:=hq.hl;show (t'.length:Int)≤_;omega)⟩,hp,rfl,rfl⟩,Re.trans (Re.sn [0,1,2,3] rfl) Re.bunIn1⟩
theorem qw_NextNo (N:Nd.Nc) (q:Nd.Qu) (h:q.t=[]):Tri prog 184 #[.pointer (some ⟨N.q,0,none⟩)] [] [qu N q] (fun v L'=>v=.tuple #[.agg #[.int .i64 Im.zero.id,.int .i64 Im.zero.level,.int .i64 Im.zero.from_,.int .i64 Im.zero.deadline,.int .i64 Im.zero.budget,.int .i64 Im.zero.since,.int .i64 Im.zero.seq],.bool false]∧L'=[qu N q]):=by
 refine (qu_NextNo N.q N.p N.qb q.V N.qn q.t q.m (by rw [h];rfl)).frame.conv (Re.trans Re.bunOut1 (Re.sn [0,1,2,3] rfl)) ?_
 rintro v _ ⟨L1,rfl,rfl,rfl⟩
 exact ⟨_,⟨rfl,rfl⟩,Re.trans (Re.sn [0,1,2,3] rfl) Re.bunIn1⟩
theorem qw_Clear (N:Nd.Nc) (q:Nd.Qu) (hN:N.Ok) (hq:q.Ok N):Tri prog 108 #[.pointer (some ⟨N.q,0,none⟩)] [] [qu N q] (fun v L'=>∃ q',q'.Ok N∧q'.t=[]∧v=.tuple #[]∧L'=[qu N q']):=by
 refine (qu_Clear N.q N.p N.qb q.V N.qn q.t q.m).frame.conv (Re.trans Re.bunOut1 (Re.sn [0,1,2,3] rfl)) ?_
 rintro v _ ⟨L1,rfl,rfl,rfl⟩
 exact ⟨_,⟨⟨Value.slice none 0 0,[],[]⟩,⟨Nd.AtOk.nil,(by have h1_:=hN.hq0;show ((([]:List Im).length:Nat):Int)≤_;simp;omega)⟩,rfl,rfl,rfl⟩,Re.trans (Re.sn [0,1,2,3] rfl) Re.bunIn1⟩
theorem qw_Sweep (N:Nd.Nc) (q:Nd.Qu) (now:Int) (hN:N.Ok) (hq:q.Ok N):Tri prog 103 #[.pointer (some ⟨N.q,0,none⟩),.int .i64 now] [] [qu N q] (fun v L'=>∃ q' o,q'.Ok N∧o.Perm q.t∧q'.t.Perm (Nd.Kept o now o.length)∧L'=[qu N q',row v 66 7 ((Nd.Gone o now o.length).map Im.cells)]):=by
 refine (qu_Sweep N.q N.p N.qb q.V N.qn q.t q.m now (by have h1_:=hq.hl;have h2_:=hN.hq1;omega) hq.hk).frame.conv (Re.trans Re.bunOut1 (Re.sn [0,1,2,3] rfl)) ?_
 rintro v _ ⟨L1,rfl,V',t',m',o,ho,hp,hk,rfl⟩
 exact ⟨_,⟨⟨V',t',m'⟩,o,⟨hk,(by have h1_:=hp.length_eq;have h2_:=ho.length_eq;have h3_:=Nd.kept_len (o:=o) (now:=now) (k:=o.length);have h4_:=hq.hl;show (t'.length:Int)≤_;omega)⟩,ho,hp,rfl⟩,Re.trans (Re.sn [0,1,2,3,4] rfl) (Re.bunIn (As:=quL N ⟨V',t',m'⟩))⟩
def slL (N:Nd.Nc) (ps:Nd.Pl):List Sp:=[var N.s ([Value.int .i64 N.wk]++ps.map Nd.sP) 210,bun (Nd.sI 66 ps)]
def sl (N:Nd.Nc) (ps:Nd.Pl):Sp:=bun (slL N ps)
theorem sw_All (N:Nd.Nc) (ps:Nd.Pl) (hN:N.Ok) (hl:ps.length=16) (hb:Nd.Beyond ps N.wk.toNat):Tri prog 41 #[.pointer (some ⟨N.s,0,none⟩)] [sl N ps] [] (fun v L'=>L'=[row v 66 7 ((Nd.its ps).map Im.cells)]):=(show Tri _ _ _ _ _ _ from by have h_:=sl_All N.s N.wk ps hl (by have h1_:=hN.hw0;omega) hN.hw1;rw [Nd.its_all hb] at h_;exact h_).roB (.at 0 rfl (.at 1 rfl .nil))
theorem sw_Free (N:Nd.Nc) (ps:Nd.Pl) (hN:N.Ok) (hl:ps.length=16) (hb:Nd.Beyond ps N.wk.toNat):Tri prog 183 #[.pointer (some ⟨N.s,0,none⟩)] [sl N ps] [] (fun v L'=>v=.int .i64 (N.wk-((Nd.its ps).length:Int))∧L'=[]):=(show Tri _ _ _ _ _ _ from by have h_:=sl_Free N.s N.wk ps hl (by have h1_:=hN.hw0;omega) hN.hw1;rw [Nd.its_all hb] at h_;exact h_).roB (.at 0 rfl (.at 1 rfl .nil))
theorem sw_Put (N:Nd.Nc) (ps:Nd.Pl) (x:Im) (hN:N.Ok) (hl:ps.length=16) (hb:Nd.Beyond ps N.wk.toNat) (hno:∀ y∈Nd.its ps,y.id≠x.id) (hf:((Nd.its ps).length:Int) < N.wk):Tri prog 185 #[.pointer (some ⟨N.s,0,none⟩),.agg #[.int .i64 x.id,.int .i64 x.level,.int .i64 x.from_,.int .i64 x.deadline,.int .i64 x.budget,.int .i64 x.since,.int .i64 x.seq]] [] [sl N ps] (fun v L'=>∃ (n:Int) (ps':Nd.Pl),ps'.length=16∧Nd.Beyond ps' N.wk.toNat∧(Nd.its ps').Perm (x :: Nd.its ps)∧v=.tuple #[.int .i64 n,.int .i64 0]∧L'=[sl N ps']):=by
 refine (sl_Put N.s N.wk ps x hl (by have h1_:=hN.hw0;omega) hN.hw1 hb (Nd.no_at hno) (by obtain ⟨k_,h1_,h2_⟩:=Nd.free_at (ps:=ps) (n:=N.wk.toNat) (by have:=hN.hw1;omega) (by rw [Nd.its_all hb];omega);exact ⟨k_,by omega,h2_⟩)).frame.conv (Re.trans Re.bunOut1 (Re.sn [0,1] rfl)) ?_
 rintro v _ ⟨L1,rfl,k,ps',rfl,h1,h2,h3,rfl⟩
 exact ⟨_,⟨_,ps',h1,h2,h3,rfl,rfl⟩,Re.trans (Re.sn [0,1] rfl) Re.bunIn1⟩
theorem sw_Take (N:Nd.Nc) (ps:Nd.Pl) (x:Im) (hN:N.Ok) (hl:ps.length=16) (hb:Nd.Beyond ps N.wk.toNat) (hx:x∈Nd.its ps):Tri prog 272 #[.pointer (some ⟨N.s,0,none⟩),.int .i64 x.id] [] [sl N ps] (fun v L'=>∃ (y:Im) (ps':Nd.Pl),y.id=x.id∧ps'.length=16∧Nd.Beyond ps' N.wk.toNat∧(Nd.its ps).Perm (y :: Nd.its ps')∧v=.tuple #[.agg #[.int .i64 y.id,.int .i64 y.level,.int .i64 y.from_,.int .i64 y.deadline,.int .i64 y.budget,.int .i64 y.since,.int .i64 y.seq],.bool true]∧L'=[sl N ps']):=by
 refine (sl_Take N.s N.wk ps x.id hl (by have h1_:=hN.hw0;omega) hN.hw1 hb (Nd.yes_at hb (by have:=hN.hw0;omega) hx)).frame.conv (Re.trans Re.bunOut1 (Re.sn [0,1] rfl)) ?_
 rintro v _ ⟨L1,rfl,y,ps',rfl,hi,h1,h2,h3,rfl⟩
 exact ⟨_,⟨y,ps',hi,h1,h2,h3,rfl,rfl⟩,Re.trans (Re.sn [0,1] rfl) Re.bunIn1⟩
theorem sw_Clear (N:Nd.Nc) (ps:Nd.Pl) (hl:ps.length=16):Tri prog 109 #[.pointer (some ⟨N.s,0,none⟩)] [] [sl N ps] (fun v L'=>v=.tuple #[]∧L'=[sl N (List.replicate 16 none)]):=by
 refine (sl_Clear N.s N.wk ps hl).frame.conv (Re.trans Re.bunOut1 (Re.sn [0,1] rfl)) ?_
 rintro v _ ⟨L1,rfl,rfl,rfl⟩
 exact ⟨_,⟨rfl,rfl⟩,Re.trans (Re.trans (Re.sn [0] rfl) Re.new) (Re.trans (Re.sn [1,0] rfl) Re.bunIn1)⟩
def seL (N:Nd.Nc) (s:Nd.Sn):List Sp:=[var N.sn [s.R,.int .i64 s.f,.int .i64 s.n,.map (some N.sb)] 180,row s.R 3 1 (s.ring.map encZ),mi N.sb (Value.int .i64) s.m]
def se (N:Nd.Nc) (s:Nd.Sn):Sp:=bun (seL N s)
theorem sn_Note (N:Nd.Nc) (s:Nd.Sn) (id:Int) (hs:s.Ok):Tri prog 177 #[.pointer (some ⟨N.sn,0,none⟩),.int .i64 id] [] [se N s] (fun v L'=>∃ s',s'.Ok∧(∀ k,(getI s'.m k).isSome=true→k=id∨(getI s.m k).isSome=true)∧v=.bool (!(getI s.m id).isSome)∧L'=[se N s']):=by
 refine (se_Note N.sn N.sb s.R s.f s.n s.ring s.m id hs.hR hs.hf0 hs.hfl hs.hn0 hs.hnl).frame.conv (Re.trans Re.bunOut1 (Re.sn [0,1,2] rfl)) ?_
 rintro v _ ⟨L1,rfl,q,f',n',ring',m',rfl,⟨h1,h2,h3,h4,h5⟩,rfl,hm,rfl⟩
 exact ⟨_,⟨⟨s.R,f',n',ring',m'⟩,⟨(by show ring'.length≤256;rw [h1];exact hs.hR),h2,(by show f' < (ring'.length:Int)∨ring'.length=0∧f'=0;rw [h1];exact h3),h4,(by show n'≤(ring'.length:Int);rw [h1];exact h5)⟩,hm,rfl,rfl⟩,Re.trans (Re.sn [0,1,2] rfl) Re.bunIn1⟩
theorem sn_Clear (N:Nd.Nc) (s:Nd.Sn) (hs:s.Ok):Tri prog 112 #[.pointer (some ⟨N.sn,0,none⟩)] [] [se N s] (fun v L'=>∃ s',s'.Ok∧s'.n=0∧s'.m=[]∧v=.tuple #[]∧L'=[se N s']):=by
 refine (se_Clear N.sn N.sb s.R s.f s.n s.ring s.m).frame.conv (Re.trans Re.bunOut1 (Re.sn [0,1,2] rfl)) ?_
 rintro v _ ⟨L1,rfl,rfl,rfl⟩
 exact ⟨_,⟨⟨s.R,0,0,s.ring,[]⟩,⟨hs.hR,Int.le_refl 0,(by have h1_:=hs.hf0;have h2_:=hs.hfl;show (0:Int) < s.ring.length∨s.ring.length=0∧(0:Int)=0;omega),Int.le_refl 0,(by show (0:Int)≤s.ring.length;omega)⟩,rfl,rfl,rfl,rfl⟩,Re.trans (Re.sn [0,1,2] rfl) Re.bunIn1⟩
theorem nw_made (N:Nd.Nc) (now ver many calls:Int):Tri prog 39 #[.pointer (some ⟨N.n,0,none⟩)] [var N.n (Nd.nC N now ver many calls) 90] [] (fun v L'=>v=.bool true∧L'=[]):=by
 refine Tri.en func39 H ntmps39 H fun w0=>J.co 7 H<|O.p (Pu.ptrNe N29 H) H<|O.oo 4 H<|O.gz (Qt.lw 0 A82 H H H) H H<|O.gz (Pu.qt (Pu.ptrNe N82 H)) H H<|O.oc 3 H ?_
 exact J.r0 H H ⟨H,H⟩
theorem nw_ctl (N:Nd.Nc) (now ver many calls:Int):Tri prog 42 #[.pointer (some ⟨N.n,0,none⟩)] [var N.n (Nd.nC N now ver many calls) 90] [] (fun v L'=>v=.pointer (some ⟨N.c,0,none⟩)∧L'=[]):=by
 refine Tri.en func42 H ntmps42 H fun w0=>J.co 8 H<|O.p (Pu.someEq N29 H) H<|O.oo 8 H<|O.q (Qt.lw 0 A82 H H H) H<|O.oc 2 H ?_
 exact J.r0 H H ⟨H,H⟩
theorem nw_Threshold (N:Nd.Nc) (now ver many calls:Int) (k:Nd.Kt):Tri prog 18 #[.pointer (some ⟨N.n,0,none⟩)] [var N.n (Nd.nC N now ver many calls) 90,ct N k] [] (fun v L'=>v=.int .i64 k.thr∧L'=[]):=by
 refine Tri.en func18 H ntmps18 H fun w0=>J.co 7 H<|O.l (Lo.ca call42 (nw_ctl N now ver many calls) [] H H (.ro 0 H .nil)) H ?_
 rintro _ _ ⟨_,⟨rfl,rfl⟩,rfl⟩
 refine O.l (Lo.ca call44 (ct_Threshold N k) [] H H (.ro 1 H .nil)) H ?_
 rintro _ _ ⟨_,⟨rfl,rfl⟩,rfl⟩
 refine O.oc 2 H ?_
 exact J.r0 H H ⟨H,H⟩
theorem nw_Epoch (N:Nd.Nc) (now ver many calls:Int) (k:Nd.Kt):Tri prog 17 #[.pointer (some ⟨N.n,0,none⟩)] [var N.n (Nd.nC N now ver many calls) 90,ct N k] [] (fun v L'=>v=.int .i64 k.ep∧L'=[]):=by
 refine Tri.en func17 H ntmps17 H fun w0=>J.co 7 H<|O.l (Lo.ca call42 (nw_ctl N now ver many calls) [] H H (.ro 0 H .nil)) H ?_
 rintro _ _ ⟨_,⟨rfl,rfl⟩,rfl⟩
 refine O.l (Lo.ca call43 (ct_Epoch N k) [] H H (.ro 1 H .nil)) H ?_
 rintro _ _ ⟨_,⟨rfl,rfl⟩,rfl⟩
 refine O.oc 2 H ?_
 exact J.r0 H H ⟨H,H⟩
theorem nw_Tier (N:Nd.Nc) (now ver many calls:Int) (k:Nd.Kt):Tri prog 19 #[.pointer (some ⟨N.n,0,none⟩)] [var N.n (Nd.nC N now ver many calls) 90,ct N k] [] (fun v L'=>v=.int .i64 k.tier∧L'=[]):=by
 refine Tri.en func19 H ntmps19 H fun w0=>J.co 7 H<|O.l (Lo.ca call42 (nw_ctl N now ver many calls) [] H H (.ro 0 H .nil)) H ?_
 rintro _ _ ⟨_,⟨rfl,rfl⟩,rfl⟩
 refine O.l (Lo.ca call45 (ct_Tier N k) [] H H (.ro 1 H .nil)) H ?_
 rintro _ _ ⟨_,⟨rfl,rfl⟩,rfl⟩
 refine O.oc 2 H ?_
 exact J.r0 H H ⟨H,H⟩
end Go.Proofs.YtohjlkjhpibkmaaGreatDoor
