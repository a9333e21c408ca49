/-
  Walks, printed by a program of mine.
-/
import Derived.KernelRfl
import Derived.Test.YtohjlkjhpibkmaaGreatDoorD14
import Derived.Test.YtohjlkjhpibkmaaGreatDoorD05
import Derived.Test.YtohjlkjhpibkmaaGreatDoorD03
set_option linter.unusedSimpArgs false
set_option linter.unusedVariables false
namespace Go.Proofs.YtohjlkjhpibkmaaGreatDoor
open Go Go.LK Go.Proofs.Tryz
set_option maxRecDepth 100000
set_option maxHeartbeats 4000000
theorem wk_Up1 (gh gm:Nat) (mo:Int) (h:Nat) (lev:Int) (hl:List Int) (x:Int) (hn:hl.length=128) (hv0:0≤lev) (hv1:lev≤128):Tri prog 339 #[.int .i64 x,.pointer (some ⟨gh,0,none⟩),.pointer (some ⟨gm,0,none⟩)] [var gh [.pointer (some ⟨h,0,none⟩)] 169,var gm [.int .i64 mo] 3,var h ([Value.int .i64 lev]++hl.map (Value.int .i64)) 302] [] (fun v L'=>∃ b:Bool,v=.bool b∧L'=[]):=by
 refine Tri.en func339 H ntmps339 H fun w0=>J.cc 5 H<|J.dm [(0,false),(1,false),(3,false),(2,true),(4,false),(5,false)] [] Tryz.mixed (by kernel_rfl) H<|Mx.q H (Qt.lw 0 A169 H H H) H<|Mx.r 1 H<|Mx.q H (Qt.lw 1 A3 H H H) H<|Mx.l H (Lo.ca call334 (hi_Below h lev hl x hn hv0 hv1) [] H H (.ro 2 H .nil)) H ?_
 rintro _ _ ⟨_,⟨n1,rfl,hb2,rfl⟩,rfl⟩
 have hbel:=hb2
 refine MxK.gp [] [] H H<|Mx.r 2 H<|Mx.nil ?_
 exact J.r0 H H ⟨_,H,H⟩
theorem wk_Down1 (gh gm:Nat) (mo:Int) (h:Nat) (lev:Int) (hl:List Int) (x:Int) (hn:hl.length=128) (hv0:0≤lev) (hv1:lev≤128):Tri prog 341 #[.int .i64 x,.pointer (some ⟨gh,0,none⟩),.pointer (some ⟨gm,0,none⟩)] [var gh [.pointer (some ⟨h,0,none⟩)] 169,var gm [.int .i64 mo] 3,var h ([Value.int .i64 lev]++hl.map (Value.int .i64)) 302] [] (fun v L'=>∃ b:Bool,v=.bool b∧L'=[]):=by
 refine Tri.en func341 H ntmps341 H fun w0=>J.cc 5 H<|J.dm [(0,false),(1,false),(3,false),(2,true),(4,false),(5,false)] [] Tryz.mixed (by kernel_rfl) H<|Mx.q H (Qt.lw 0 A169 H H H) H<|Mx.r 1 H<|Mx.q H (Qt.lw 1 A3 H H H) H<|Mx.l H (Lo.ca call334 (hi_Below h lev hl x hn hv0 hv1) [] H H (.ro 2 H .nil)) H ?_
 rintro _ _ ⟨_,⟨n1,rfl,hb2,rfl⟩,rfl⟩
 have hbel:=hb2
 refine MxK.gp [] [] H H<|Mx.r 2 H<|Mx.nil ?_
 exact J.r0 H H ⟨_,H,H⟩
theorem wk_first_up (gf gt gh gm:Nat) (f t mo:Int) (h:Nat) (lev:Int) (hl:List Int) (o:Int) (hf:0≤f) (ht:t≤lev) (ho:0≤o∧o≤lev) (hn:hl.length=128) (hv0:0≤lev) (hv1:lev≤128):Tri prog 337 #[.func (.func 375) #[] #[.pointer (some ⟨gf,0,none⟩),.pointer (some ⟨gt,0,none⟩)],.func (.func 339) #[] #[.pointer (some ⟨gh,0,none⟩),.pointer (some ⟨gm,0,none⟩)],.int .i64 o] [var gf [.int .i64 f] 3,var gt [.int .i64 t] 3,var gh [.pointer (some ⟨h,0,none⟩)] 169,var gm [.int .i64 mo] 3,var h ([Value.int .i64 lev]++hl.map (Value.int .i64)) 302] [] (fun v L'=>∃ r:Int,v=.int .i64 r∧(0≤r∧r≤lev)∧L'=[]):=by
 refine Tri.enterI (args:=[.func (.func 375) #[] #[.pointer (some ⟨gf,0,none⟩),.pointer (some ⟨gt,0,none⟩)],.func (.func 339) #[] #[.pointer (some ⟨gh,0,none⟩),.pointer (some ⟨gm,0,none⟩)],.int .i64 o]) (body:=_) 15 func337 rfl ntmps337 rfl ?_
 intro w0
 refine JI.seq ?_
 refine JI.region ?_
 refine OI.l (Lo.box [.func (.func 339) #[] #[.pointer (some ⟨gh,0,none⟩),.pointer (some ⟨gm,0,none⟩)]] rfl rfl) rfl ?_
 rintro _ _ ⟨g1,rfl,rfl⟩
 refine OI.l (Lo.alloc [.int .i64 0] (by exact zeroValue3) rfl) rfl ?_
 rintro _ _ ⟨g2,rfl,rfl⟩
 refine OI.nil ?_
 refine JI.seq ?_
 refine JI.seq ?_
 refine JI.region ?_
 refine OI.p (Pu.move rfl) rfl ?_
 refine OI.nil ?_
 refine JI.block ?_
 refine JI.trim [(2,.int .i64 o),(4,.pointer (some ⟨g1,0,none⟩)),(6,.pointer (some ⟨g2,0,none⟩)),(8,.func (.func 375) #[] #[.pointer (some ⟨gf,0,none⟩),.pointer (some ⟨gt,0,none⟩)])] ⟨rfl,rfl,rfl,rfl,trivial⟩ ?_
 refine JI.rangeN (gf:=375) (X:=Unit) (Z:=Int) (fun vs ξ=>True) (fun ξ=>[var g1 [.func (.func 339) #[] #[.pointer (some ⟨gh,0,none⟩),.pointer (some ⟨gm,0,none⟩)]] 140,var g2 [.int .i64 0] 3]) (fun x ξ=>x=.ret∧(0≤ξ∧ξ≤lev)) (fun ξ=>[var g1 [.func (.func 339) #[] #[.pointer (some ⟨gh,0,none⟩),.pointer (some ⟨gm,0,none⟩)]] 140,var g2 [.int .i64 ξ] 3]) rfl rfl (fun _ _=>by rfl) (it_up gf gt f t hf (by omega)) (fun vs x hx_=>by obtain ⟨rfl,_⟩:=hx_;rfl) rfl ⟨⟩ trivial [1,0] (by decide) rfl (fun A hA=>by simp only [List.mem_cons,List.not_mem_nil,or_false] at hA;rcases hA with rfl|rfl<;>simp) (fun W1 M1 l3 D3 rec3 vs3 y3 x3 hS3 hT3 hy3 hx3=>?_) (fun l3 D3 r3 vs3 y3 hf3 hy3=>?_) (fun l3 D3 r3 x3 z hy3=>?_)
 ·
  obtain ⟨rfl,h_e4⟩:=hx3
  have hT:True:=hy3
  show JI _ _ _ ([(9,.int .i64 (f+(vs3.length:Int)))]++[(2,.int .i64 o),(4,.pointer (some ⟨g1,0,none⟩)),(6,.pointer (some ⟨g2,0,none⟩)),(8,.func (.func 375) #[] #[.pointer (some ⟨gf,0,none⟩),.pointer (some ⟨gt,0,none⟩)])]) [blk l3 (.loop (rec3 .ready none)),blk D3 (.deferred (some [])),var g1 [.func (.func 339) #[] #[.pointer (some ⟨gh,0,none⟩),.pointer (some ⟨gm,0,none⟩)]] 140,var g2 [.int .i64 0] 3]
  refine JI.region ?_
  refine OI.p (Pu.assign rfl) rfl ?_
  refine OI.nil ?_
  refine JI.begin (hS3 _ _) ?_
  refine JI.block ?_
  refine JI.seq ?_
  refine JI.region ?_
  refine OI.q (Qt.ld rfl (Cel.var 2 rfl) (o:=0) (off:=0) rfl (Cut.one isAgg140 rfl)) rfl ?_
  refine OI.p (Pu.move rfl) rfl ?_
  refine OI.l (Lo.callV (vs:=[.int .i64 (f+(vs3.length:Int))]) (caps:=[.pointer (some ⟨gh,0,none⟩),.pointer (some ⟨gm,0,none⟩)]) (by exact call339) rfl rfl (wk_Up1 gh gm mo h lev hl (f+(vs3.length:Int)) hn hv0 hv1) [] [0,1,2,3] (by decide) rfl [blk l3 (.loop { rec3 .ready none with state:=.busy }),blk D3 (.deferred (some [])),var g1 [.func (.func 339) #[] #[.pointer (some ⟨gh,0,none⟩),.pointer (some ⟨gm,0,none⟩)]] 140,var g2 [.int .i64 0] 3] rfl (RoOk.ro 2 rfl [] rfl (RoOk.ro 3 rfl [] rfl (RoOk.ro 4 rfl [] rfl RoOk.nil)))) rfl ?_
  rintro _ _ ⟨_,⟨b5,rfl,rfl⟩,rfl⟩
  refine OI.nil ?_
  refine JI.cond rfl (fun h7=>?_) (fun h7=>?_)
  ·
   refine JI.seq ?_
   refine JI.region ?_
   refine OI.p (Pu.move rfl) rfl ?_
   refine OI.l0 (Lo.store 3 (vs:=[.int .i64 (f+(vs3.length:Int))]) [.int .i64 (f+(vs3.length:Int))] rfl rfl rfl (by exact sizeOf3) rfl rfl rfl rfl rfl) ?_
   rintro _ _ rfl
   refine OI.nil ?_
   exact RE.ret (f+(vs3.length:Int)) (show (Code.ret=.ret)∧(0≤(f+(vs3.length:Int))∧(f+(vs3.length:Int))≤lev) from ⟨rfl,⟨by omega,by omega⟩⟩) rfl [0,1,2,3] (by decide) rfl (fun _=>hT3 .ready none .done _)
  ·
   refine JI.skip ?_
   refine JI.blk ?_
   exact RE.nextS (r:={ rec3 .ready none with state:=.busy }) ⟨⟩ (show True from trivial) rfl [0,1,2,3] (by decide) rfl (hT3 .ready none .ready none)
 ·
  have hT:True:=hy3
  show JI _ _ _ [(2,.int .i64 o),(4,.pointer (some ⟨g1,0,none⟩)),(6,.pointer (some ⟨g2,0,none⟩)),(8,.func (.func 375) #[] #[.pointer (some ⟨gf,0,none⟩),.pointer (some ⟨gt,0,none⟩)])] [blk l3 (.loop r3),blk D3 (.deferred (some [])),var g1 [.func (.func 339) #[] #[.pointer (some ⟨gh,0,none⟩),.pointer (some ⟨gm,0,none⟩)]] 140,var g2 [.int .i64 0] 3]
  refine JI.blk ?_
  refine JI.seq ?_
  refine JI.region ?_
  refine OI.p (Pu.move rfl) rfl ?_
  refine OI.l0 (Lo.store 3 (vs:=[.int .i64 o]) [.int .i64 o] rfl rfl rfl (by exact sizeOf3) rfl rfl rfl rfl rfl) ?_
  rintro _ _ rfl
  refine OI.nil ?_
  exact JI.retM (j:=1) rfl rfl rfl (Fin.ret (rs:=[.cell 6 3]) rfl [_] ⟨⟨_,_,0,0,_,rfl,(Cel.var 3 rfl),rfl,(Cut.one isAgg3 rfl)⟩,trivial⟩ [] (by decide) [] rfl ⟨_,rfl,⟨by omega,by omega⟩,rfl⟩)
 ·
  obtain ⟨rfl,hzb⟩:=hy3
  show JI _ _ _ [(2,.int .i64 o),(4,.pointer (some ⟨g1,0,none⟩)),(6,.pointer (some ⟨g2,0,none⟩)),(8,.func (.func 375) #[] #[.pointer (some ⟨gf,0,none⟩),.pointer (some ⟨gt,0,none⟩)])] [blk l3 (.loop r3),blk D3 (.deferred (some [])),var g1 [.func (.func 339) #[] #[.pointer (some ⟨gh,0,none⟩),.pointer (some ⟨gm,0,none⟩)]] 140,var g2 [.int .i64 z] 3]
  exact JI.retM (j:=1) rfl rfl rfl (Fin.ret (rs:=[.cell 6 3]) rfl [_] ⟨⟨_,_,0,0,_,rfl,(Cel.var 3 rfl),rfl,(Cut.one isAgg3 rfl)⟩,trivial⟩ [] (by decide) [] rfl ⟨_,rfl,⟨by omega,by omega⟩,rfl⟩)
theorem wk_first_dn (gf gt gh gm:Nat) (f t mo:Int) (h:Nat) (lev:Int) (hl:List Int) (o:Int) (hf:f≤lev) (ht:0≤t) (ho:0≤o∧o≤lev) (hn:hl.length=128) (hv0:0≤lev) (hv1:lev≤128):Tri prog 337 #[.func (.func 376) #[] #[.pointer (some ⟨gf,0,none⟩),.pointer (some ⟨gt,0,none⟩)],.func (.func 341) #[] #[.pointer (some ⟨gh,0,none⟩),.pointer (some ⟨gm,0,none⟩)],.int .i64 o] [var gf [.int .i64 f] 3,var gt [.int .i64 t] 3,var gh [.pointer (some ⟨h,0,none⟩)] 169,var gm [.int .i64 mo] 3,var h ([Value.int .i64 lev]++hl.map (Value.int .i64)) 302] [] (fun v L'=>∃ r:Int,v=.int .i64 r∧(0≤r∧r≤lev)∧L'=[]):=by
 refine Tri.enterI (args:=[.func (.func 376) #[] #[.pointer (some ⟨gf,0,none⟩),.pointer (some ⟨gt,0,none⟩)],.func (.func 341) #[] #[.pointer (some ⟨gh,0,none⟩),.pointer (some ⟨gm,0,none⟩)],.int .i64 o]) (body:=_) 15 func337 rfl ntmps337 rfl ?_
 intro w0
 refine JI.seq ?_
 refine JI.region ?_
 refine OI.l (Lo.box [.func (.func 341) #[] #[.pointer (some ⟨gh,0,none⟩),.pointer (some ⟨gm,0,none⟩)]] rfl rfl) rfl ?_
 rintro _ _ ⟨g1,rfl,rfl⟩
 refine OI.l (Lo.alloc [.int .i64 0] (by exact zeroValue3) rfl) rfl ?_
 rintro _ _ ⟨g2,rfl,rfl⟩
 refine OI.nil ?_
 refine JI.seq ?_
 refine JI.seq ?_
 refine JI.region ?_
 refine OI.p (Pu.move rfl) rfl ?_
 refine OI.nil ?_
 refine JI.block ?_
 refine JI.trim [(2,.int .i64 o),(4,.pointer (some ⟨g1,0,none⟩)),(6,.pointer (some ⟨g2,0,none⟩)),(8,.func (.func 376) #[] #[.pointer (some ⟨gf,0,none⟩),.pointer (some ⟨gt,0,none⟩)])] ⟨rfl,rfl,rfl,rfl,trivial⟩ ?_
 refine JI.rangeN (gf:=376) (X:=Unit) (Z:=Int) (fun vs ξ=>True) (fun ξ=>[var g1 [.func (.func 341) #[] #[.pointer (some ⟨gh,0,none⟩),.pointer (some ⟨gm,0,none⟩)]] 140,var g2 [.int .i64 0] 3]) (fun x ξ=>x=.ret∧(0≤ξ∧ξ≤lev)) (fun ξ=>[var g1 [.func (.func 341) #[] #[.pointer (some ⟨gh,0,none⟩),.pointer (some ⟨gm,0,none⟩)]] 140,var g2 [.int .i64 ξ] 3]) rfl rfl (fun _ _=>by rfl) (it_dn gf gt f t (by omega) ht) (fun vs x hx_=>by obtain ⟨rfl,_⟩:=hx_;rfl) rfl ⟨⟩ trivial [1,0] (by decide) rfl (fun A hA=>by simp only [List.mem_cons,List.not_mem_nil,or_false] at hA;rcases hA with rfl|rfl<;>simp) (fun W1 M1 l3 D3 rec3 vs3 y3 x3 hS3 hT3 hy3 hx3=>?_) (fun l3 D3 r3 vs3 y3 hf3 hy3=>?_) (fun l3 D3 r3 x3 z hy3=>?_)
 ·
  obtain ⟨rfl,h_e4⟩:=hx3
  have hT:True:=hy3
  show JI _ _ _ ([(9,.int .i64 (f-(vs3.length:Int)))]++[(2,.int .i64 o),(4,.pointer (some ⟨g1,0,none⟩)),(6,.pointer (some ⟨g2,0,none⟩)),(8,.func (.func 376) #[] #[.pointer (some ⟨gf,0,none⟩),.pointer (some ⟨gt,0,none⟩)])]) [blk l3 (.loop (rec3 .ready none)),blk D3 (.deferred (some [])),var g1 [.func (.func 341) #[] #[.pointer (some ⟨gh,0,none⟩),.pointer (some ⟨gm,0,none⟩)]] 140,var g2 [.int .i64 0] 3]
  refine JI.region ?_
  refine OI.p (Pu.assign rfl) rfl ?_
  refine OI.nil ?_
  refine JI.begin (hS3 _ _) ?_
  refine JI.block ?_
  refine JI.seq ?_
  refine JI.region ?_
  refine OI.q (Qt.ld rfl (Cel.var 2 rfl) (o:=0) (off:=0) rfl (Cut.one isAgg140 rfl)) rfl ?_
  refine OI.p (Pu.move rfl) rfl ?_
  refine OI.l (Lo.callV (vs:=[.int .i64 (f-(vs3.length:Int))]) (caps:=[.pointer (some ⟨gh,0,none⟩),.pointer (some ⟨gm,0,none⟩)]) (by exact call341) rfl rfl (wk_Down1 gh gm mo h lev hl (f-(vs3.length:Int)) hn hv0 hv1) [] [0,1,2,3] (by decide) rfl [blk l3 (.loop { rec3 .ready none with state:=.busy }),blk D3 (.deferred (some [])),var g1 [.func (.func 341) #[] #[.pointer (some ⟨gh,0,none⟩),.pointer (some ⟨gm,0,none⟩)]] 140,var g2 [.int .i64 0] 3] rfl (RoOk.ro 2 rfl [] rfl (RoOk.ro 3 rfl [] rfl (RoOk.ro 4 rfl [] rfl RoOk.nil)))) rfl ?_
  rintro _ _ ⟨_,⟨b5,rfl,rfl⟩,rfl⟩
  refine OI.nil ?_
  refine JI.cond rfl (fun h7=>?_) (fun h7=>?_)
  ·
   refine JI.seq ?_
   refine JI.region ?_
   refine OI.p (Pu.move rfl) rfl ?_
   refine OI.l0 (Lo.store 3 (vs:=[.int .i64 (f-(vs3.length:Int))]) [.int .i64 (f-(vs3.length:Int))] rfl rfl rfl (by exact sizeOf3) rfl rfl rfl rfl rfl) ?_
   rintro _ _ rfl
   refine OI.nil ?_
   exact RE.ret (f-(vs3.length:Int)) (show (Code.ret=.ret)∧(0≤(f-(vs3.length:Int))∧(f-(vs3.length:Int))≤lev) from ⟨rfl,⟨by omega,by omega⟩⟩) rfl [0,1,2,3] (by decide) rfl (fun _=>hT3 .ready none .done _)
  ·
   refine JI.skip ?_
   refine JI.blk ?_
   exact RE.nextS (r:={ rec3 .ready none with state:=.busy }) ⟨⟩ (show True from trivial) rfl [0,1,2,3] (by decide) rfl (hT3 .ready none .ready none)
 ·
  have hT:True:=hy3
  show JI _ _ _ [(2,.int .i64 o),(4,.pointer (some ⟨g1,0,none⟩)),(6,.pointer (some ⟨g2,0,none⟩)),(8,.func (.func 376) #[] #[.pointer (some ⟨gf,0,none⟩),.pointer (some ⟨gt,0,none⟩)])] [blk l3 (.loop r3),blk D3 (.deferred (some [])),var g1 [.func (.func 341) #[] #[.pointer (some ⟨gh,0,none⟩),.pointer (some ⟨gm,0,none⟩)]] 140,var g2 [.int .i64 0] 3]
  refine JI.blk ?_
  refine JI.seq ?_
  refine JI.region ?_
  refine OI.p (Pu.move rfl) rfl ?_
  refine OI.l0 (Lo.store 3 (vs:=[.int .i64 o]) [.int .i64 o] rfl rfl rfl (by exact sizeOf3) rfl rfl rfl rfl rfl) ?_
  rintro _ _ rfl
  refine OI.nil ?_
  exact JI.retM (j:=1) rfl rfl rfl (Fin.ret (rs:=[.cell 6 3]) rfl [_] ⟨⟨_,_,0,0,_,rfl,(Cel.var 3 rfl),rfl,(Cut.one isAgg3 rfl)⟩,trivial⟩ [] (by decide) [] rfl ⟨_,rfl,⟨by omega,by omega⟩,rfl⟩)
 ·
  obtain ⟨rfl,hzb⟩:=hy3
  show JI _ _ _ [(2,.int .i64 o),(4,.pointer (some ⟨g1,0,none⟩)),(6,.pointer (some ⟨g2,0,none⟩)),(8,.func (.func 376) #[] #[.pointer (some ⟨gf,0,none⟩),.pointer (some ⟨gt,0,none⟩)])] [blk l3 (.loop r3),blk D3 (.deferred (some [])),var g1 [.func (.func 341) #[] #[.pointer (some ⟨gh,0,none⟩),.pointer (some ⟨gm,0,none⟩)]] 140,var g2 [.int .i64 z] 3]
  exact JI.retM (j:=1) rfl rfl rfl (Fin.ret (rs:=[.cell 6 3]) rfl [_] ⟨⟨_,_,0,0,_,rfl,(Cel.var 3 rfl),rfl,(Cut.one isAgg3 rfl)⟩,trivial⟩ [] (by decide) [] rfl ⟨_,rfl,⟨by omega,by omega⟩,rfl⟩)
theorem hi_All (h:Nat) (lev:Int) (hl:List Int) (hn:hl.length=128) (hv0:0≤lev) (hv1:lev≤128):Tri prog 372 #[.pointer (some ⟨h,0,none⟩)] [var h ([Value.int .i64 lev]++hl.map (Value.int .i64)) 302] [] (fun v L'=>L'=[row v 3 1 ((hl.take lev.toNat).map encZ)]):=by
 refine Tri.en func372 H ntmps372 H fun w0=>J.co 8 H<|O.p (Pu.someEq N169 H) H<|O.oc 4 H<|J.dm [(1,false),(2,false),(3,false),(4,false),(5,false),(6,false),(7,false),(8,false),(0,true),(9,true),(10,false)] [] Tryz.mixed (by kernel_rfl) H<|Mx.r 6 H<|Mx.q H (Qt.lw 0 A3 H H H) H<|Mx.p H (Pu.headArr U300 Z3 H H (by omega) (by omega)) H<|Mx.l H (Lo.buildE encZ U60 Z3) H ?_
 rintro V1 _ rfl
 refine MxK.gp [] [] H H<|Mx.l H (Lo.am 0 N60 info3 H H H H H (Src.hcutRo (l:=hl) 0 H H hn (by omega) (by decide)) encZ.one (by first|omega|(simp only [List.length_append,List.length_nil,List.length_take,hn];omega)) (by first|omega|(simp only [List.length_append,List.length_nil,List.length_take,hn];omega))) H ?_
 rintro V2 _ rfl
 refine MxK.al [] H (by kernel_rfl)<|Mx.r 1 H<|Mx.nil ?_
 exact J.r1 [0] H H H H
theorem wk_levels (h:Nat) (lev:Int) (hl:List Int) (hn:hl.length=128) (hv0:0≤lev) (hv1:lev≤128):Tri prog 333 #[.pointer (some ⟨h,0,none⟩)] [var h ([Value.int .i64 lev]++hl.map (Value.int .i64)) 302] [] (fun v L'=>v=.int .i64 lev∧L'=[]):=by
 refine Tri.en func333 H ntmps333 H fun w0=>J.co 7 H<|O.l (Lo.ca call372 (hi_All h lev hl hn hv0 hv1) [] H H (.ro 0 H .nil)) H ?_
 rintro v1 _ ⟨_,rfl,rfl⟩
 refine O.q (Qt.lenM U60 H (Src.row 0 H)) H<|O.oc 2 H ?_
 exact J.r0 H H ⟨congrArg (Value.int .i64) (by rw [List.length_take,hn];omega),H⟩
theorem wk_Up (h:Nat) (lev:Int) (hl:List Int) (thr lift:Int) (hn:hl.length=128) (hv0:0≤lev) (hv1:lev≤128):Tri prog 284 #[.pointer (some ⟨h,0,none⟩),.int .i64 thr,.int .i64 lift] [var h ([Value.int .i64 lev]++hl.map (Value.int .i64)) 302] [] (fun v L'=>∃ r:Int,v=.int .i64 r∧(0≤r∧r≤lev)∧L'=[]):=by
 have hk_:=Sh.keep_bnd thr hv0
 refine Tri.en func284 H ntmps284 H fun w0=>J.co 2 H<|O.l (Lo.bx H H) H ?_
 rintro _ _ ⟨g1,rfl,rfl⟩
 refine O.oo 4 H<|O.q (Qt.lv 0 A169 H H H) H<|O.l (Lo.ca call333 (wk_levels h lev hl hn hv0 hv1) [] H H (.ro 0 H .nil)) H ?_
 rintro _ _ ⟨_,⟨rfl,rfl⟩,rfl⟩
 refine O.oo 6 H<|O.l (Lo.ca C199 (bd_Keep thr lev) [] H H .nil) H ?_
 rintro _ _ ⟨_,⟨rfl,rfl⟩,rfl⟩
 refine O.oc 3 H<|J.drawA Tryz.mixed ?_
 refine A.edge 2 8 H ?_ ?_
 ·
  refine A.mx [(0,false),(1,false),(3,false),(5,false),(8,true),(2,true),(4,true),(6,false),(7,false),(9,true)] [0] (by kernel_rfl) H<|Mx.q H (Qt.lv 0 A169 H H H) H<|Mx.r 1 H<|Mx.q H (Qt.lv 0 A169 H H H) H<|Mx.r 1 H<|Mx.l H (Lo.al Y3 H) H ?_
  rintro _ _ ⟨g4,rfl,rfl⟩
  refine MxK.gp [1] [0] H H<|Mx.l H (Lo.ca call334 (hi_Below h lev hl (Sh.keep thr lev) hn hv0 hv1) [] H H (.ro 0 H .nil)) H ?_
  rintro _ _ ⟨_,⟨n5,rfl,hb6,rfl⟩,rfl⟩
  have hbel:=hb6
  refine MxK.gp [1] [0] H H<|Mx.l H (Lo.ca call336 (hi_Total h lev hl hn hv0 hv1) [] H H (.ro 0 H .nil)) H ?_
  rintro _ _ ⟨_,⟨n8,rfl,hb9,rfl⟩,rfl⟩
  have htot:=hb9
  refine MxK.al [1] H (by kernel_rfl)<|Mx.call (vs:=[.int .i64 n8,.int .i64 lift]) (caps:=[]) H (by exact call335) H H (bd_Part n8 lift) (fun _ _ h=>h) RoOk.nil H<|Mx.call (vs:=[.int .i64 n5,.int .i64 (Nd.pct n8 (Sh.keep lift 100))]) (caps:=[]) H (by exact C288) H H (bd_Add n5 (Nd.pct n8 (Sh.keep lift 100))) (fun _ _ h=>h) RoOk.nil H<|Mx.l0 H (Lo.st 0 Z3 H H H H H H H) ?_
  rintro _ _ rfl
  refine MxK.al [1] H (by kernel_rfl)<|Mx.nil<|J.co 3 H<|O.p (Pu.add' H H (by omega)) H<|O.oo 1 H<|O.l (Lo.ca call338 (wk_up ((Sh.keep thr lev)+1) lev) [] H H .nil) H ?_
  rintro _ _ ⟨_,⟨g11,g12,rfl,rfl⟩,rfl⟩
  refine O.p (Pu.makeFunc [.pointer (some ⟨g1,0,none⟩),.pointer (some ⟨g4,0,none⟩)] H) H<|O.oo 1 H<|O.l (Lo.ca call337 (wk_first_up g11 g12 g1 g4 ((Sh.keep thr lev)+1) lev (Nd.addC n5 (Nd.pct n8 (Sh.keep lift 100))) h lev hl lev (by omega) (by omega) ⟨by omega,by omega⟩ hn hv0 hv1) [] H H (.own 0 H H (.own 1 H H (.own 3 H H (.own 2 H H (.ro 0 H .nil)))))) H ?_
  rintro _ _ ⟨_,⟨r14,rfl,hb15,rfl⟩,rfl⟩
  have hfst:=hb15
  refine O.oc 2 H ?_
  exact J.r0 H H ⟨_,H,⟨by omega,by omega⟩,H⟩
 refine A.edge 4 8 H ?_ ?_
 ·
  refine A.mx [(0,false),(1,false),(3,false),(5,false),(2,true),(8,true),(4,true),(6,false),(7,false),(9,true)] [0] (by kernel_rfl) H<|Mx.q H (Qt.lv 0 A169 H H H) H<|Mx.r 1 H<|Mx.q H (Qt.lv 0 A169 H H H) H<|Mx.r 1 H<|Mx.l H (Lo.ca call334 (hi_Below h lev hl (Sh.keep thr lev) hn hv0 hv1) [] H H (.ro 0 H .nil)) H ?_
  rintro _ _ ⟨_,⟨n17,rfl,hb18,rfl⟩,rfl⟩
  have hbel:=hb18
  refine MxK.gp [0] [0] H H<|Mx.l H (Lo.al Y3 H) H ?_
  rintro _ _ ⟨g20,rfl,rfl⟩
  refine MxK.gp [1] [0] H H<|Mx.l H (Lo.ca call336 (hi_Total h lev hl hn hv0 hv1) [] H H (.ro 0 H .nil)) H ?_
  rintro _ _ ⟨_,⟨n21,rfl,hb22,rfl⟩,rfl⟩
  have htot:=hb22
  refine MxK.al [1] H (by kernel_rfl)<|Mx.call (vs:=[.int .i64 n21,.int .i64 lift]) (caps:=[]) H (by exact call335) H H (bd_Part n21 lift) (fun _ _ h=>h) RoOk.nil H<|Mx.call (vs:=[.int .i64 n17,.int .i64 (Nd.pct n21 (Sh.keep lift 100))]) (caps:=[]) H (by exact C288) H H (bd_Add n17 (Nd.pct n21 (Sh.keep lift 100))) (fun _ _ h=>h) RoOk.nil H<|Mx.l0 H (Lo.st 0 Z3 H H H H H H H) ?_
  rintro _ _ rfl
  refine MxK.al [1] H (by kernel_rfl)<|Mx.nil<|J.co 3 H<|O.p (Pu.add' H H (by omega)) H<|O.oo 1 H<|O.l (Lo.ca call338 (wk_up ((Sh.keep thr lev)+1) lev) [] H H .nil) H ?_
  rintro _ _ ⟨_,⟨g24,g25,rfl,rfl⟩,rfl⟩
  refine O.p (Pu.makeFunc [.pointer (some ⟨g1,0,none⟩),.pointer (some ⟨g20,0,none⟩)] H) H<|O.oo 1 H<|O.l (Lo.ca call337 (wk_first_up g24 g25 g1 g20 ((Sh.keep thr lev)+1) lev (Nd.addC n17 (Nd.pct n21 (Sh.keep lift 100))) h lev hl lev (by omega) (by omega) ⟨by omega,by omega⟩ hn hv0 hv1) [] H H (.own 0 H H (.own 1 H H (.own 3 H H (.own 2 H H (.ro 0 H .nil)))))) H ?_
  rintro _ _ ⟨_,⟨r27,rfl,hb28,rfl⟩,rfl⟩
  have hfst:=hb28
  refine O.oc 2 H ?_
  exact J.r0 H H ⟨_,H,⟨by omega,by omega⟩,H⟩
 refine A.mx [(0,false),(1,false),(3,false),(5,false),(2,true),(4,true),(6,false),(7,false),(8,true),(9,true)] [0] (by kernel_rfl) H<|Mx.q H (Qt.lv 0 A169 H H H) H<|Mx.r 1 H<|Mx.q H (Qt.lv 0 A169 H H H) H<|Mx.r 1 H<|Mx.l H (Lo.ca call334 (hi_Below h lev hl (Sh.keep thr lev) hn hv0 hv1) [] H H (.ro 0 H .nil)) H ?_
 rintro _ _ ⟨_,⟨n30,rfl,hb31,rfl⟩,rfl⟩
 have hbel:=hb31
 refine MxK.gp [0] [0] H H<|Mx.l H (Lo.ca call336 (hi_Total h lev hl hn hv0 hv1) [] H H (.ro 0 H .nil)) H ?_
 rintro _ _ ⟨_,⟨n33,rfl,hb34,rfl⟩,rfl⟩
 have htot:=hb34
 refine MxK.al [0] H (by kernel_rfl)<|Mx.call (vs:=[.int .i64 n33,.int .i64 lift]) (caps:=[]) H (by exact call335) H H (bd_Part n33 lift) (fun _ _ h=>h) RoOk.nil H<|Mx.call (vs:=[.int .i64 n30,.int .i64 (Nd.pct n33 (Sh.keep lift 100))]) (caps:=[]) H (by exact C288) H H (bd_Add n30 (Nd.pct n33 (Sh.keep lift 100))) (fun _ _ h=>h) RoOk.nil H<|Mx.l H (Lo.al Y3 H) H ?_
 rintro _ _ ⟨g36,rfl,rfl⟩
 refine MxK.gp [1] [0] H H<|Mx.l0 H (Lo.st 0 Z3 H H H H H H H) ?_
 rintro _ _ rfl
 refine MxK.al [1] H (by kernel_rfl)<|Mx.nil<|J.co 3 H<|O.p (Pu.add' H H (by omega)) H<|O.oo 1 H<|O.l (Lo.ca call338 (wk_up ((Sh.keep thr lev)+1) lev) [] H H .nil) H ?_
 rintro _ _ ⟨_,⟨g37,g38,rfl,rfl⟩,rfl⟩
 refine O.p (Pu.makeFunc [.pointer (some ⟨g1,0,none⟩),.pointer (some ⟨g36,0,none⟩)] H) H<|O.oo 1 H<|O.l (Lo.ca call337 (wk_first_up g37 g38 g1 g36 ((Sh.keep thr lev)+1) lev (Nd.addC n30 (Nd.pct n33 (Sh.keep lift 100))) h lev hl lev (by omega) (by omega) ⟨by omega,by omega⟩ hn hv0 hv1) [] H H (.own 0 H H (.own 1 H H (.own 3 H H (.own 2 H H (.ro 0 H .nil)))))) H ?_
 rintro _ _ ⟨_,⟨r40,rfl,hb41,rfl⟩,rfl⟩
 have hfst:=hb41
 refine O.oc 2 H ?_
 exact J.r0 H H ⟨_,H,⟨by omega,by omega⟩,H⟩
theorem wk_Down (h:Nat) (lev:Int) (hl:List Int) (thr fl cut:Int) (hn:hl.length=128) (hv0:0≤lev) (hv1:lev≤128):Tri prog 285 #[.pointer (some ⟨h,0,none⟩),.int .i64 thr,.int .i64 fl,.int .i64 cut] [var h ([Value.int .i64 lev]++hl.map (Value.int .i64)) 302] [] (fun v L'=>∃ r:Int,v=.int .i64 r∧(0≤r∧r≤lev)∧L'=[]):=by
 have hk_:=Sh.keep_bnd thr hv0
 have hf_:=Sh.keep_bnd fl hv0
 refine Tri.en func285 H ntmps285 H fun w0=>J.co 2 H<|O.l (Lo.bx H H) H ?_
 rintro _ _ ⟨g1,rfl,rfl⟩
 refine O.oo 4 H<|O.q (Qt.lv 0 A169 H H H) H<|O.l (Lo.ca call333 (wk_levels h lev hl hn hv0 hv1) [] H H (.ro 0 H .nil)) H ?_
 rintro _ _ ⟨_,⟨rfl,rfl⟩,rfl⟩
 refine O.oo 6 H<|O.l (Lo.ca C199 (bd_Keep thr lev) [] H H .nil) H ?_
 rintro _ _ ⟨_,⟨rfl,rfl⟩,rfl⟩
 refine O.oo 2 H<|O.l (Lo.ca C199 (bd_Keep fl lev) [] H H .nil) H ?_
 rintro _ _ ⟨_,⟨rfl,rfl⟩,rfl⟩
 refine O.oc 10 H ?_
 refine J.cd H (fun p5=>?_) (fun p5=>?_)
 ·
  refine J.cc 5 H ?_
  exact J.r0 H H ⟨_,H,⟨by omega,by omega⟩,H⟩
 refine J.co 3 H<|O.q (Qt.lv 0 A169 H H H) H<|O.oo 1 H<|O.l (Lo.ca call334 (hi_Below h lev hl (Sh.keep thr lev) hn hv0 hv1) [] H H (.ro 0 H .nil)) H ?_
 rintro _ _ ⟨_,⟨n6,rfl,hb7,rfl⟩,rfl⟩
 have hbel:=hb7
 refine O.oo 7 H<|O.l (Lo.ca call335 (bd_Part n6 cut) [] H H .nil) H ?_
 rintro _ _ ⟨_,⟨rfl,rfl⟩,rfl⟩
 have hpct:0≤Nd.pct n6 (Sh.keep cut 100)∧Nd.pct n6 (Sh.keep cut 100)≤2147483647:=Sh.keep_bnd _ (by decide)
 refine O.p (Pu.sub' H H (by omega)) H<|O.l (Lo.al Y3 H) H ?_
 rintro _ _ ⟨g10,rfl,rfl⟩
 refine O.l0 (Lo.st 0 Z3 H H H H H H H) ?_
 rintro _ _ rfl
 refine O.oo 4 H<|O.p (Pu.sub' H H (by omega)) H<|O.oo 1 H<|O.l (Lo.ca call340 (wk_down ((Sh.keep thr lev)-1) (Sh.keep fl lev)) [] H H .nil) H ?_
 rintro _ _ ⟨_,⟨g11,g12,rfl,rfl⟩,rfl⟩
 refine O.p (Pu.makeFunc [.pointer (some ⟨g1,0,none⟩),.pointer (some ⟨g10,0,none⟩)] H) H<|O.oo 1 H<|O.l (Lo.ca call337 (wk_first_dn g11 g12 g1 g10 ((Sh.keep thr lev)-1) (Sh.keep fl lev) (n6-(Nd.pct n6 (Sh.keep cut 100))) h lev hl (Sh.keep fl lev) (by omega) (by omega) ⟨by omega,by omega⟩ hn hv0 hv1) [] H H (.own 0 H H (.own 1 H H (.own 3 H H (.own 2 H H (.ro 0 H .nil)))))) H ?_
 rintro _ _ ⟨_,⟨r14,rfl,hb15,rfl⟩,rfl⟩
 have hfst:=hb15
 refine O.oc 2 H ?_
 exact J.r0 H H ⟨_,H,⟨by omega,by omega⟩,H⟩
theorem co_move (c u d h l:Nat) (lev tiers k0 k1 k2 k3 k4 k5 k6 thr ep:Int) (hl:List Int) (way:Int) (hn:hl.length=128) (hv0:0≤lev) (hv1:lev≤128) (hp0:0≤thr) (hp1:thr≤lev) (he0:0≤ep) (he1:ep≤4294967295):Tri prog 211 #[.pointer (some ⟨c,0,none⟩),.int .i64 way] [var h ([Value.int .i64 lev]++hl.map (Value.int .i64)) 302] [var c [.pointer (some ⟨u,0,none⟩),.pointer (some ⟨d,0,none⟩),.int .i64 lev,.int .i64 tiers,.int .i64 k0,.int .i64 k1,.int .i64 k2,.int .i64 k3,.int .i64 k4,.int .i64 k5,.int .i64 k6,.pointer (some ⟨h,0,none⟩),.pointer (some ⟨l,0,none⟩),.int .i64 thr,.int .i64 ep] 172] (fun v L'=>∃ (b:Bool) (t2 e2:Int),v=.bool b∧(0≤t2∧t2≤lev)∧((b=false∧t2=thr∧e2=ep)∨(b=true∧t2≠thr∧e2=Sh.keep (ep+1) 4294967295))∧L'=[var c [.pointer (some ⟨u,0,none⟩),.pointer (some ⟨d,0,none⟩),.int .i64 lev,.int .i64 tiers,.int .i64 k0,.int .i64 k1,.int .i64 k2,.int .i64 k3,.int .i64 k4,.int .i64 k5,.int .i64 k6,.pointer (some ⟨h,0,none⟩),.pointer (some ⟨l,0,none⟩),.int .i64 t2,.int .i64 e2] 172]):=by
 refine Tri.en func211 H ntmps211 H fun w0=>J.co 9 H<|O.q (Qt.lv 0 A3 H H H) H<|O.oc 10 H ?_
 refine J.cd H (fun p1=>?_) (fun p1=>?_)
 ·
  refine J.dm [(0,false),(1,false),(2,false),(3,false),(4,false),(5,false),(6,false),(7,false),(8,false),(9,false),(10,false),(11,true),(12,false),(13,false),(14,true)] [0] Tryz.mixed (by kernel_rfl) H<|Mx.r 4 H<|Mx.q H (Qt.lv 0 A169 H H H) H<|Mx.r 5 H<|Mx.q H (Qt.lv 0 A3 H H H) H<|Mx.l H (Lo.ca call284 (wk_Up h lev hl thr k3 hn hv0 hv1) [] H H (.ro 0 H .nil)) H ?_
  rintro _ _ ⟨_,⟨r2,rfl,hb3,rfl⟩,rfl⟩
  have hwk:=hb3
  refine MxK.al [0] H (by kernel_rfl)<|Mx.r 2 H<|Mx.l0 H (Lo.st 0 Z3 H H H H H H H) ?_
  rintro _ _ rfl
  refine MxK.al [0] H (by kernel_rfl)<|Mx.nil<|J.co 7 H<|O.q (Qt.lv 0 A3 H H H) H<|O.oc 3 H ?_
  refine J.cd H (fun p5=>?_) (fun p5=>?_)
  ·
   refine J.cc 4 H ?_
   exact J.r1 [0] H H H ⟨_,_,_,H,⟨by omega,by omega⟩,(by first|exact .inl ⟨rfl,(by first|assumption|rfl),rfl⟩|exact .inr ⟨rfl,by assumption,rfl⟩),H⟩
  refine J.co 4 H<|O.l (Lo.ca call216 (co_later c u d h l lev tiers k0 k1 k2 k3 k4 k5 k6 r2 ep he0 he1) [0] H H .nil) H ?_
  rintro _ _ ⟨_,⟨rfl,rfl⟩,rfl⟩
  refine O.oc 5 H ?_
  exact J.r1 [0] H H H ⟨_,_,_,H,⟨by omega,by omega⟩,(by first|exact .inl ⟨rfl,(by first|assumption|rfl),rfl⟩|exact .inr ⟨rfl,by assumption,rfl⟩),H⟩
 refine J.cc 6 H ?_
 refine J.cd H (fun p7=>?_) (fun p7=>?_)
 ·
  refine J.dm [(0,false),(1,false),(2,false),(3,false),(4,false),(5,false),(6,false),(7,false),(8,false),(9,false),(10,false),(11,false),(12,false),(13,false),(14,false),(15,false),(16,true),(17,false),(18,false),(19,true)] [0] Tryz.mixed (by kernel_rfl) H<|Mx.r 4 H<|Mx.q H (Qt.lv 0 A169 H H H) H<|Mx.r 5 H<|Mx.q H (Qt.lv 0 A3 H H H) H<|Mx.r 4 H<|Mx.q H (Qt.lv 0 A3 H H H) H<|Mx.l H (Lo.ca call285 (wk_Down h lev hl thr k4 k2 hn hv0 hv1) [] H H (.ro 0 H .nil)) H ?_
  rintro _ _ ⟨_,⟨r8,rfl,hb9,rfl⟩,rfl⟩
  have hwk:=hb9
  refine MxK.al [0] H (by kernel_rfl)<|Mx.r 2 H<|Mx.l0 H (Lo.st 0 Z3 H H H H H H H) ?_
  rintro _ _ rfl
  refine MxK.al [0] H (by kernel_rfl)<|Mx.nil<|J.co 7 H<|O.q (Qt.lv 0 A3 H H H) H<|O.oc 3 H ?_
  refine J.cd H (fun p11=>?_) (fun p11=>?_)
  ·
   refine J.cc 4 H ?_
   exact J.r1 [0] H H H ⟨_,_,_,H,⟨by omega,by omega⟩,(by first|exact .inl ⟨rfl,(by first|assumption|rfl),rfl⟩|exact .inr ⟨rfl,by assumption,rfl⟩),H⟩
  refine J.co 4 H<|O.l (Lo.ca call216 (co_later c u d h l lev tiers k0 k1 k2 k3 k4 k5 k6 r8 ep he0 he1) [0] H H .nil) H ?_
  rintro _ _ ⟨_,⟨rfl,rfl⟩,rfl⟩
  refine O.oc 5 H ?_
  exact J.r1 [0] H H H ⟨_,_,_,H,⟨by omega,by omega⟩,(by first|exact .inl ⟨rfl,(by first|assumption|rfl),rfl⟩|exact .inr ⟨rfl,by assumption,rfl⟩),H⟩
 refine J.co 8 H<|O.q (Qt.lv 0 A3 H H H) H<|O.oc 3 H<|J.condT H (by simp)<|J.cc 4 H ?_
 exact J.r1 [0] H H H ⟨_,_,_,H,⟨by omega,by omega⟩,(by first|exact .inl ⟨rfl,(by first|assumption|rfl),rfl⟩|exact .inr ⟨rfl,by assumption,rfl⟩),H⟩
theorem di_Step (d:Nat) (tiers tier held:Int) (op:Bool) (dwell x:Int) (ht0:0≤tier) (ht1:tier≤tiers) (ht2:tiers≤7) (hx:x=0∨x=1∨x=2):Tri prog 213 #[.pointer (some ⟨d,0,none⟩),.int .i64 x,.bool op,.int .i64 dwell] [] [var d [.bool true,.int .i64 tiers,.int .i64 tier,.int .i64 held] 296] (fun v L'=>v=.bool (Nd.dimStep tiers tier held x op dwell).1∧L'=[var d [.bool true,.int .i64 tiers,.int .i64 ((Nd.dimStep tiers tier held x op dwell).2.1),.int .i64 ((Nd.dimStep tiers tier held x op dwell).2.2)] 296]):=by
  rcases hx with rfl|rfl|rfl
  · exact di_Step0 d tiers tier held op dwell ht0 ht1 ht2
  · exact di_Step1 d tiers tier held op dwell ht0 ht1 ht2
  · exact di_Step2 d tiers tier held op dwell ht0 ht1 ht2
theorem co_Close (c u d h l:Nat) (lev tiers k0 k1 k2 k3 k4 k5 k6 thr ep:Int) (way held tier dheld lm ls lw:Int) (hl:List Int) (hn:hl.length=128) (hv0:0≤lev) (hv1:lev≤128) (hp0:0≤thr) (hp1:thr≤lev) (he0:0≤ep) (he1:ep≤4294967295) (hw0:-1≤way) (hw1:way≤1) (ht0:0≤tier) (ht1:tier≤tiers) (ht2:tiers≤7):Tri prog 106 #[.pointer (some ⟨c,0,none⟩)] [] [var c [.pointer (some ⟨u,0,none⟩),.pointer (some ⟨d,0,none⟩),.int .i64 lev,.int .i64 tiers,.int .i64 k0,.int .i64 k1,.int .i64 k2,.int .i64 k3,.int .i64 k4,.int .i64 k5,.int .i64 k6,.pointer (some ⟨h,0,none⟩),.pointer (some ⟨l,0,none⟩),.int .i64 thr,.int .i64 ep] 172,var u [.int .i64 way,.int .i64 held] 309,var d [.bool true,.int .i64 tiers,.int .i64 tier,.int .i64 dheld] 296,var h ([Value.int .i64 lev]++hl.map (Value.int .i64)) 302,var l [.int .i64 lm,.int .i64 ls,.int .i64 lw] 311] (fun v L'=>∃ (b1 b2:Bool) (vd t2 e2 w2 h2 r2 g2:Int),v=.agg #[.int .i64 vd,.int .i64 t2,.int .i64 r2,.int .i64 e2,.bool b1,.bool b2]∧(0≤t2∧t2≤lev)∧((b1=false∧t2=thr∧e2=ep)∨(b1=true∧t2≠thr∧e2=Sh.keep (ep+1) 4294967295))∧(-1≤w2∧w2≤1)∧(0≤r2∧r2≤tiers)∧L'=[var c [.pointer (some ⟨u,0,none⟩),.pointer (some ⟨d,0,none⟩),.int .i64 lev,.int .i64 tiers,.int .i64 k0,.int .i64 k1,.int .i64 k2,.int .i64 k3,.int .i64 k4,.int .i64 k5,.int .i64 k6,.pointer (some ⟨h,0,none⟩),.pointer (some ⟨l,0,none⟩),.int .i64 t2,.int .i64 e2] 172,var u [.int .i64 w2,.int .i64 h2] 309,var d [.bool true,.int .i64 tiers,.int .i64 r2,.int .i64 g2] 296,var h ([Value.int .i64 lev]++(List.replicate 128 (0:Int)).map (Value.int .i64)) 302,var l [.int .i64 0,.int .i64 0,.int .i64 0] 311]):=by
 refine Tri.en func106 H ntmps106 H fun w0=>J.co 2 H<|O.l (Lo.al zeroValue161 H) H ?_
 rintro _ _ ⟨g1,rfl,rfl⟩
 refine O.oo 5 H<|O.l (Lo.ca call173 (co_made c u d h l lev tiers k0 k1 k2 k3 k4 k5 k6 thr ep) [] H H (.own 1 H H .nil)) H ?_
 rintro _ _ ⟨_,⟨rfl,rfl⟩,rfl⟩
 refine O.oc 5 H<|J.drawTail 14 Tryz.mixed (by kernel_rfl)<|S.r 3 H<|S.q (Qt.lv 1 isAgg170 H H H) H<|S.r 4 H<|S.q (Qt.lv 1 A3 H H H) H<|S.r 4 H<|S.q (Qt.lv 1 A3 H H H) H<|S.endO<|O.l (Lo.ca call210 (ld_Verdict l lm ls lw k0 k1) [] H H (.own 5 H H .nil)) H ?_
 rintro _ _ ⟨_,⟨rfl,rfl⟩,rfl⟩
 refine O.oc 3 H<|J.dm [(0,false),(1,false),(2,false),(3,false),(4,false),(5,false),(6,false),(7,false),(8,false),(9,false),(10,false),(11,true),(12,true),(13,false)] [1] Tryz.mixed (by kernel_rfl) H<|Mx.r 4 H<|Mx.q H (Qt.lv 0 isAgg167 H H H) H<|Mx.r 5 H<|Mx.q H (Qt.lv 0 A3 H H H) H<|Mx.l H (Lo.ca call212 (tu_Step u way held (Nd.verdict (Nd.mean ls lm) k0 k1) k5 hw0 hw1) [2] H H .nil) H ?_
 rintro _ _ ⟨_,⟨rfl,rfl⟩,rfl⟩
 have htw:=Nd.turn_bnd (held:=held) (v:=Nd.verdict (Nd.mean ls lm) k0 k1) (dwell:=k5) hw0 hw1
 refine MxK.al [2] H (by kernel_rfl)<|Mx.l H (Lo.ca call211 (co_move c u d h l lev tiers k0 k1 k2 k3 k4 k5 k6 thr ep hl ((Nd.turnStep way held (Nd.verdict (Nd.mean ls lm) k0 k1) k5).1) hn hv0 hv1 hp0 hp1 he0 he1) [2] H H (.own 4 H H .nil)) H ?_
 rintro _ _ ⟨_,⟨b5,t6,e7,rfl,ht8,hm9,rfl⟩,rfl⟩
 have hmvt:=ht8
 have hmv:=hm9
 refine MxK.al [0] H (by kernel_rfl)<|Mx.r 1 H<|Mx.nil<|J.seq<|J.drawTail 19 Tryz.mixed (by kernel_rfl)<|S.r 3 H<|S.q (Qt.lv 0 isAgg168 H H H) H<|S.r 4 H<|S.q (Qt.lv 0 A3 H H H) H<|S.r 3 H<|S.q (Qt.lv 0 A3 H H H) H<|S.r 5 H<|S.q (Qt.lv 0 A3 H H H) H<|S.endO<|O.l (Lo.ca call213 (di_Step d tiers tier dheld (decide (t6=lev)) k6 (Nd.verdict (Nd.mean ls lm) k0 k1) ht0 ht1 ht2 (Nd.verdict_cases _ _ _)) [3] H H .nil) H ?_
 rintro _ _ ⟨_,⟨rfl,rfl⟩,rfl⟩
 have hdb:=Nd.dim_bnd (held:=dheld) (v:=Nd.verdict (Nd.mean ls lm) k0 k1) (op:=decide (t6=lev)) (dwell:=k6) ht0 ht1
 refine O.oo 5 H<|O.l (Lo.ca call214 (co_fresh c u d h l lev tiers k0 k1 k2 k3 k4 k5 k6 t6 e7 hl lm ls lw hn) [1,4,5] H H .nil) H ?_
 rintro _ _ ⟨_,⟨rfl,rfl⟩,rfl⟩
 refine O.oc 2 H<|J.drawHead 14 Tryz.mixed (by kernel_rfl)<|Hd.p (Pu.move H) H<|Hd.p (Pu.move H) H<|Hd.p (Pu.nilCheck H) H<|Hd.p (Pu.fieldAddr (off':=13) U172 H Z3 H H H) H<|Hd.q (Qt.lv 0 A3 H H H) H<|Hd.p (Pu.move H) H<|Hd.call (vs:=[.pointer (some ⟨c,0,none⟩)]) (caps:=[]) (by exact call45) H H (co_Tier c u d h l lev tiers k0 k1 k2 k3 k4 k5 k6 t6 e7 tiers ((Nd.dimStep tiers tier dheld (Nd.verdict (Nd.mean ls lm) k0 k1) (decide (t6=lev)) k6).2.1) ((Nd.dimStep tiers tier dheld (Nd.verdict (Nd.mean ls lm) k0 k1) (decide (t6=lev)) k6).2.2)) (fun _ _ h=>h) (RoOk.of 0 H same_rd [] (by decide) H (RoOk.of 3 H same_rd [] (by decide) H RoOk.nil)) H<|Hd.p (Pu.move H) H<|Hd.p (Pu.nilCheck H) H<|Hd.p (Pu.fieldAddr (off':=14) U172 H Z3 H H H) H<|Hd.q (Qt.lv 0 A3 H H H) H<|Hd.p (Pu.move H) H<|Hd.p (Pu.move H) H<|Hd.p (Pu.build [(0,.int .i64 (Nd.verdict (Nd.mean ls lm) k0 k1)),(1,.int .i64 t6),(2,.int .i64 ((Nd.dimStep tiers tier dheld (Nd.verdict (Nd.mean ls lm) k0 k1) (decide (t6=lev)) k6).2.1)),(3,.int .i64 e7),(4,.bool b5),(5,.bool ((Nd.dimStep tiers tier dheld (Nd.verdict (Nd.mean ls lm) k0 k1) (decide (t6=lev)) k6).1))] [.int .i64 (Nd.verdict (Nd.mean ls lm) k0 k1),.int .i64 t6,.int .i64 ((Nd.dimStep tiers tier dheld (Nd.verdict (Nd.mean ls lm) k0 k1) (decide (t6=lev)) k6).2.1),.int .i64 e7,.bool b5,.bool ((Nd.dimStep tiers tier dheld (Nd.verdict (Nd.mean ls lm) k0 k1) (decide (t6=lev)) k6).1)] #[(0,1),(1,1),(2,1),(3,1),(4,1),(5,1)] runUnderlying161 zeroValue161 (places161 underlying161) H (by kernel_rfl)) H<|Hd.nil<|O.l0 (Lo.st 5 sizeOf161 H H H H H H H) ?_
 rintro _ _ rfl
 refine O.nil ?_
 exact J.rn [_] [0,4,3,1,2] H ⟨⟨_,_,0,0,_,H,(Cel.var 5 H),H,(Cut.agg [.int .i64 (Nd.verdict (Nd.mean ls lm) k0 k1),.int .i64 t6,.int .i64 ((Nd.dimStep tiers tier dheld (Nd.verdict (Nd.mean ls lm) k0 k1) (decide (t6=lev)) k6).2.1),.int .i64 e7,.bool b5,.bool ((Nd.dimStep tiers tier dheld (Nd.verdict (Nd.mean ls lm) k0 k1) (decide (t6=lev)) k6).1)] isAgg161 sizeOf161 H H)⟩,trivial⟩ H ⟨_,_,_,_,_,_,_,_,_,H,hmvt,hmv,htw,hdb,H⟩
theorem rq_parts (r:Nat):Tri prog 258 #[.pointer (some ⟨r,0,none⟩)] [] [] (fun v L'=>L'=[row v 336 5 ([Nd.rq0,Nd.rq1,Nd.rq2,Nd.rq3,Nd.rq4,Nd.rq5].map (Nd.Pt.cells r))]):=by
 refine Tri.en func258 H ntmps258 H fun w0=>J.cc 5 H<|J.drawTail 24 Tryz.mixed (by kernel_rfl)<|S.r 3 H<|S.p (Pu.build [(0,.pointer (some ⟨r,0,none⟩)),(1,.int .i64 6),(2,.int .i64 0),(3,.int .i64 0),(4,.int .i64 281474976710655)] [.pointer (some ⟨r,0,none⟩),.int .i64 6,.int .i64 0,.int .i64 0,.int .i64 281474976710655] #[(0,1),(1,1),(2,1),(3,1),(4,1)] U336 Y336 (places336 N336) H (by kernel_rfl)) H<|S.r 3 H<|S.p (Pu.build [(0,.pointer (some ⟨r,1,none⟩)),(1,.int .i64 1),(2,.int .i64 1),(3,.int .i64 (-1)),(4,.int .i64 7)] [.pointer (some ⟨r,1,none⟩),.int .i64 1,.int .i64 1,.int .i64 (-1),.int .i64 7] #[(0,1),(1,1),(2,1),(3,1),(4,1)] U336 Y336 (places336 N336) H (by kernel_rfl)) H<|S.r 3 H<|S.p (Pu.build [(0,.pointer (some ⟨r,2,none⟩)),(1,.int .i64 1),(2,.int .i64 0),(3,.int .i64 0),(4,.int .i64 7)] [.pointer (some ⟨r,2,none⟩),.int .i64 1,.int .i64 0,.int .i64 0,.int .i64 7] #[(0,1),(1,1),(2,1),(3,1),(4,1)] U336 Y336 (places336 N336) H (by kernel_rfl)) H<|S.r 3 H<|S.p (Pu.build [(0,.pointer (some ⟨r,3,none⟩)),(1,.int .i64 1),(2,.int .i64 0),(3,.int .i64 0),(4,.int .i64 127)] [.pointer (some ⟨r,3,none⟩),.int .i64 1,.int .i64 0,.int .i64 0,.int .i64 127] #[(0,1),(1,1),(2,1),(3,1),(4,1)] U336 Y336 (places336 N336) H (by kernel_rfl)) H<|S.r 3 H<|S.p (Pu.build [(0,.pointer (some ⟨r,4,none⟩)),(1,.int .i64 6),(2,.int .i64 0),(3,.int .i64 0),(4,.int .i64 1099511627776)] [.pointer (some ⟨r,4,none⟩),.int .i64 6,.int .i64 0,.int .i64 0,.int .i64 1099511627776] #[(0,1),(1,1),(2,1),(3,1),(4,1)] U336 Y336 (places336 N336) H (by kernel_rfl)) H<|S.r 3 H<|S.p (Pu.build [(0,.pointer (some ⟨r,5,none⟩)),(1,.int .i64 2),(2,.int .i64 0),(3,.int .i64 0),(4,.int .i64 65535)] [.pointer (some ⟨r,5,none⟩),.int .i64 2,.int .i64 0,.int .i64 0,.int .i64 65535] #[(0,1),(1,1),(2,1),(3,1),(4,1)] U336 Y336 (places336 N336) H (by kernel_rfl)) H<|S.endO<|O.l (Lo.bm (Nd.Pt.cells r) [Nd.rq0,Nd.rq1,Nd.rq2,Nd.rq3,Nd.rq4,Nd.rq5] U332 Z336 Y336 H H H (by kernel_rfl) H H) H ?_
 rintro V1 _ rfl
 refine O.oc 2 H ?_
 exact J.r1 [0] H H H H
theorem rq_Check (id fr to level dl bu:Int):Tri prog 175 #[.agg #[.int .i64 id,.int .i64 fr,.int .i64 to,.int .i64 level,.int .i64 dl,.int .i64 bu]] [] [] (fun v L'=>v=.int .i64 (if Nd.okQ id fr to level dl bu=true then 0 else 1)∧L'=[]):=by
 have a0:Nd.rq0.a=0:=rfl
 have b0:Nd.rq0.b=281474976710655:=rfl
 have a1:Nd.rq1.a=-1:=rfl
 have b1:Nd.rq1.b=7:=rfl
 have a2:Nd.rq2.a=0:=rfl
 have b2:Nd.rq2.b=7:=rfl
 have a3:Nd.rq3.a=0:=rfl
 have b3:Nd.rq3.b=127:=rfl
 have a4:Nd.rq4.a=0:=rfl
 have b4:Nd.rq4.b=1099511627776:=rfl
 have a5:Nd.rq5.a=0:=rfl
 have b5:Nd.rq5.b=65535:=rfl
 refine Tri.en func175 H ntmps175 H fun w0=>J.co 2 H<|O.l (Lo.bx H H) H ?_
 rintro _ _ ⟨g1,rfl,rfl⟩
 refine O.oo 5 H<|O.l (Lo.ca call258 (rq_parts g1) [] H H .nil) H ?_
 rintro v2 _ ⟨_,rfl,rfl⟩
 refine O.q (Qt.lenM U332 H (Src.row 0 H)) H<|O.oc 3 H ?_
 refine J.loop (X:=Nat) (fun ξ=>ξ≤6∧(1≤ξ→0≤id∧id≤281474976710655)∧(2≤ξ→-1≤fr∧fr≤7)∧(3≤ξ→0≤to∧to≤7)∧(4≤ξ→0≤level∧level≤127)∧(5≤ξ→0≤dl∧dl≤1099511627776)∧(6≤ξ→0≤bu∧bu≤65535)) (fun ξ=>[(1,.pointer (some ⟨g1,0,none⟩)),(5,v2),(6,.int .i64 6),(7,.int .i64 (ξ:Int))]) (fun ξ=>[var g1 [.int .i64 id,.int .i64 fr,.int .i64 to,.int .i64 level,.int .i64 dl,.int .i64 bu] 41,row v2 336 5 (([Nd.rq0,Nd.rq1,Nd.rq2,Nd.rq3,Nd.rq4,Nd.rq5]).map (Nd.Pt.cells g1))]) (fun ξ=>6-ξ) 0 (show 0≤6∧(1≤0→0≤id∧id≤281474976710655)∧(2≤0→-1≤fr∧fr≤7)∧(3≤0→0≤to∧to≤7)∧(4≤0→0≤level∧level≤127)∧(5≤0→0≤dl∧dl≤1099511627776)∧(6≤0→0≤bu∧bu≤65535) from ⟨by omega,by omega,by omega,by omega,by omega,by omega,by omega⟩) ⟨H,H,H,(congrArg (fun z=>some (Value.int .i64 z)) (by first|rfl|omega:(0:Int)=(0:Int))),trivial⟩ [1,0] (by decide) H ?_
 rintro k hq3
 obtain ⟨hk,q1,q2,q3,q4,q5,q6⟩:k≤6∧(1≤k→0≤id∧id≤281474976710655)∧(2≤k→-1≤fr∧fr≤7)∧(3≤k→0≤to∧to≤7)∧(4≤k→0≤level∧level≤127)∧(5≤k→0≤dl∧dl≤1099511627776)∧(6≤k→0≤bu∧bu≤65535):=hq3
 show J _ _ [(1,.pointer (some ⟨g1,0,none⟩)),(5,v2),(6,.int .i64 6),(7,.int .i64 (k:Int))] [var g1 [.int .i64 id,.int .i64 fr,.int .i64 to,.int .i64 level,.int .i64 dl,.int .i64 bu] 41,row v2 336 5 (([Nd.rq0,Nd.rq1,Nd.rq2,Nd.rq3,Nd.rq4,Nd.rq5]).map (Nd.Pt.cells g1))]
 obtain rfl|rfl|rfl|rfl|rfl|rfl|rfl:k=0∨k=1∨k=2∨k=3∨k=4∨k=5∨k=6:=by omega
 ·
  show J _ _ [(1,.pointer (some ⟨g1,0,none⟩)),(5,v2),(6,.int .i64 6),(7,.int .i64 0)] [var g1 [.int .i64 id,.int .i64 fr,.int .i64 to,.int .i64 level,.int .i64 dl,.int .i64 bu] 41,row v2 336 5 (([Nd.rq0,Nd.rq1,Nd.rq2,Nd.rq3,Nd.rq4,Nd.rq5]).map (Nd.Pt.cells g1))]
  refine J.co 11 H ?_
  have he4:([Nd.rq0,Nd.rq1,Nd.rq2,Nd.rq3,Nd.rq4,Nd.rq5])[0]?=some Nd.rq0:=rfl
  refine O.q (Qt.ix U332 Z336 H (Src.row 1 H) he4 H (by rfl)) H<|O.q (Qt.lea isAgg336 Z336 (Src.row 1 H) he4 0 H (by omega) H) H<|O.l (Lo.al Y336 H) H ?_
  rintro _ _ ⟨g5,rfl,rfl⟩
  refine O.l0 (Lo.st 0 Z336 H H H H H H H) ?_
  rintro _ _ rfl
  refine O.oc 2 H<|J.drawStill Tryz.mixed (by kernel_rfl)<|S.r 1 H<|S.q (Qt.lv 0 A305 H H H) H<|S.r 1 H<|S.q (Qt.lv 1 A3 H H H) H<|S.r 1 H<|S.q (Qt.lv 0 A3 H H H) H<|S.r 2 H ?_
  refine S.sd 18 H (fun p6=>?_) (fun p6=>?_)
  ·
   refine S.r 8 H<|S.endJ<|J.cc 5 H ?_
   exact J.r0 H H ⟨(by rw [if_neg (by rw [Nd.okQ_no (by omega)];decide)];rfl),H⟩
  refine S.r 1 H<|S.gz (Qt.lv 0 A305 H H H) H H<|S.r 1 H<|S.gz (Qt.lv 1 A3 H H H) H H<|S.r 1 H<|S.gz (Qt.lv 0 A3 H H H) H H<|S.r 2 H<|S.endJ ?_
  refine J.cd H (fun p7=>?_) (fun p7=>?_)
  ·
   refine J.cc 4 H ?_
   exact J.r0 H H ⟨(by rw [if_neg (by rw [Nd.okQ_no (by omega)];decide)];rfl),H⟩
  refine J.co 3 H<|O.p (Pu.add' H H (by omega)) H<|O.oc 2 H ?_
  exact J.lp 1 (show 1≤6∧(1≤1→0≤id∧id≤281474976710655)∧(2≤1→-1≤fr∧fr≤7)∧(3≤1→0≤to∧to≤7)∧(4≤1→0≤level∧level≤127)∧(5≤1→0≤dl∧dl≤1099511627776)∧(6≤1→0≤bu∧bu≤65535) from ⟨by omega,by omega,by omega,by omega,by omega,by omega,by omega⟩) (show 6-1 < 6-0 from (by omega)) ⟨H,H,H,(congrArg (fun z=>some (Value.int .i64 z)) (by first|rfl|omega:(0+1:Int)=(1:Int))),trivial⟩ [1,2] (by decide) H
 ·
  show J _ _ [(1,.pointer (some ⟨g1,0,none⟩)),(5,v2),(6,.int .i64 6),(7,.int .i64 1)] [var g1 [.int .i64 id,.int .i64 fr,.int .i64 to,.int .i64 level,.int .i64 dl,.int .i64 bu] 41,row v2 336 5 (([Nd.rq0,Nd.rq1,Nd.rq2,Nd.rq3,Nd.rq4,Nd.rq5]).map (Nd.Pt.cells g1))]
  refine J.co 11 H ?_
  have he8:([Nd.rq0,Nd.rq1,Nd.rq2,Nd.rq3,Nd.rq4,Nd.rq5])[1]?=some Nd.rq1:=rfl
  refine O.q (Qt.ix U332 Z336 H (Src.row 1 H) he8 H (by rfl)) H<|O.q (Qt.lea isAgg336 Z336 (Src.row 1 H) he8 0 H (by omega) H) H<|O.l (Lo.al Y336 H) H ?_
  rintro _ _ ⟨g9,rfl,rfl⟩
  refine O.l0 (Lo.st 0 Z336 H H H H H H H) ?_
  rintro _ _ rfl
  refine O.oc 2 H<|J.drawStill Tryz.mixed (by kernel_rfl)<|S.r 1 H<|S.q (Qt.lv 0 A305 H H H) H<|S.r 1 H<|S.q (Qt.lv 1 A3 H H H) H<|S.r 1 H<|S.q (Qt.lv 0 A3 H H H) H<|S.r 2 H ?_
  refine S.sd 18 H (fun p10=>?_) (fun p10=>?_)
  ·
   refine S.r 8 H<|S.endJ<|J.cc 5 H ?_
   exact J.r0 H H ⟨(by rw [if_neg (by rw [Nd.okQ_no (by omega)];decide)];rfl),H⟩
  refine S.r 1 H<|S.gz (Qt.lv 0 A305 H H H) H H<|S.r 1 H<|S.gz (Qt.lv 1 A3 H H H) H H<|S.r 1 H<|S.gz (Qt.lv 0 A3 H H H) H H<|S.r 2 H<|S.endJ ?_
  refine J.cd H (fun p11=>?_) (fun p11=>?_)
  ·
   refine J.cc 4 H ?_
   exact J.r0 H H ⟨(by rw [if_neg (by rw [Nd.okQ_no (by omega)];decide)];rfl),H⟩
  refine J.co 3 H<|O.p (Pu.add' H H (by omega)) H<|O.oc 2 H ?_
  exact J.lp 2 (show 2≤6∧(1≤2→0≤id∧id≤281474976710655)∧(2≤2→-1≤fr∧fr≤7)∧(3≤2→0≤to∧to≤7)∧(4≤2→0≤level∧level≤127)∧(5≤2→0≤dl∧dl≤1099511627776)∧(6≤2→0≤bu∧bu≤65535) from ⟨by omega,by omega,by omega,by omega,by omega,by omega,by omega⟩) (show 6-2 < 6-1 from (by omega)) ⟨H,H,H,(congrArg (fun z=>some (Value.int .i64 z)) (by first|rfl|omega:(1+1:Int)=(2:Int))),trivial⟩ [1,2] (by decide) H
 ·
  show J _ _ [(1,.pointer (some ⟨g1,0,none⟩)),(5,v2),(6,.int .i64 6),(7,.int .i64 2)] [var g1 [.int .i64 id,.int .i64 fr,.int .i64 to,.int .i64 level,.int .i64 dl,.int .i64 bu] 41,row v2 336 5 (([Nd.rq0,Nd.rq1,Nd.rq2,Nd.rq3,Nd.rq4,Nd.rq5]).map (Nd.Pt.cells g1))]
  refine J.co 11 H ?_
  have he12:([Nd.rq0,Nd.rq1,Nd.rq2,Nd.rq3,Nd.rq4,Nd.rq5])[2]?=some Nd.rq2:=rfl
  refine O.q (Qt.ix U332 Z336 H (Src.row 1 H) he12 H (by rfl)) H<|O.q (Qt.lea isAgg336 Z336 (Src.row 1 H) he12 0 H (by omega) H) H<|O.l (Lo.al Y336 H) H ?_
  rintro _ _ ⟨g13,rfl,rfl⟩
  refine O.l0 (Lo.st 0 Z336 H H H H H H H) ?_
  rintro _ _ rfl
  refine O.oc 2 H<|J.drawStill Tryz.mixed (by kernel_rfl)<|S.r 1 H<|S.q (Qt.lv 0 A305 H H H) H<|S.r 1 H<|S.q (Qt.lv 1 A3 H H H) H<|S.r 1 H<|S.q (Qt.lv 0 A3 H H H) H<|S.r 2 H ?_
  refine S.sd 18 H (fun p14=>?_) (fun p14=>?_)
  ·
   refine S.r 8 H<|S.endJ<|J.cc 5 H ?_
   exact J.r0 H H ⟨(by rw [if_neg (by rw [Nd.okQ_no (by omega)];decide)];rfl),H⟩
  refine S.r 1 H<|S.gz (Qt.lv 0 A305 H H H) H H<|S.r 1 H<|S.gz (Qt.lv 1 A3 H H H) H H<|S.r 1 H<|S.gz (Qt.lv 0 A3 H H H) H H<|S.r 2 H<|S.endJ ?_
  refine J.cd H (fun p15=>?_) (fun p15=>?_)
  ·
   refine J.cc 4 H ?_
   exact J.r0 H H ⟨(by rw [if_neg (by rw [Nd.okQ_no (by omega)];decide)];rfl),H⟩
  refine J.co 3 H<|O.p (Pu.add' H H (by omega)) H<|O.oc 2 H ?_
  exact J.lp 3 (show 3≤6∧(1≤3→0≤id∧id≤281474976710655)∧(2≤3→-1≤fr∧fr≤7)∧(3≤3→0≤to∧to≤7)∧(4≤3→0≤level∧level≤127)∧(5≤3→0≤dl∧dl≤1099511627776)∧(6≤3→0≤bu∧bu≤65535) from ⟨by omega,by omega,by omega,by omega,by omega,by omega,by omega⟩) (show 6-3 < 6-2 from (by omega)) ⟨H,H,H,(congrArg (fun z=>some (Value.int .i64 z)) (by first|rfl|omega:(2+1:Int)=(3:Int))),trivial⟩ [1,2] (by decide) H
 ·
  show J _ _ [(1,.pointer (some ⟨g1,0,none⟩)),(5,v2),(6,.int .i64 6),(7,.int .i64 3)] [var g1 [.int .i64 id,.int .i64 fr,.int .i64 to,.int .i64 level,.int .i64 dl,.int .i64 bu] 41,row v2 336 5 (([Nd.rq0,Nd.rq1,Nd.rq2,Nd.rq3,Nd.rq4,Nd.rq5]).map (Nd.Pt.cells g1))]
  refine J.co 11 H ?_
  have he16:([Nd.rq0,Nd.rq1,Nd.rq2,Nd.rq3,Nd.rq4,Nd.rq5])[3]?=some Nd.rq3:=rfl
  refine O.q (Qt.ix U332 Z336 H (Src.row 1 H) he16 H (by rfl)) H<|O.q (Qt.lea isAgg336 Z336 (Src.row 1 H) he16 0 H (by omega) H) H<|O.l (Lo.al Y336 H) H ?_
  rintro _ _ ⟨g17,rfl,rfl⟩
  refine O.l0 (Lo.st 0 Z336 H H H H H H H) ?_
  rintro _ _ rfl
  refine O.oc 2 H<|J.drawStill Tryz.mixed (by kernel_rfl)<|S.r 1 H<|S.q (Qt.lv 0 A305 H H H) H<|S.r 1 H<|S.q (Qt.lv 1 A3 H H H) H<|S.r 1 H<|S.q (Qt.lv 0 A3 H H H) H<|S.r 2 H ?_
  refine S.sd 18 H (fun p18=>?_) (fun p18=>?_)
  ·
   refine S.r 8 H<|S.endJ<|J.cc 5 H ?_
   exact J.r0 H H ⟨(by rw [if_neg (by rw [Nd.okQ_no (by omega)];decide)];rfl),H⟩
  refine S.r 1 H<|S.gz (Qt.lv 0 A305 H H H) H H<|S.r 1 H<|S.gz (Qt.lv 1 A3 H H H) H H<|S.r 1 H<|S.gz (Qt.lv 0 A3 H H H) H H<|S.r 2 H<|S.endJ ?_
  refine J.cd H (fun p19=>?_) (fun p19=>?_)
  ·
   refine J.cc 4 H ?_
   exact J.r0 H H ⟨(by rw [if_neg (by rw [Nd.okQ_no (by omega)];decide)];rfl),H⟩
  refine J.co 3 H<|O.p (Pu.add' H H (by omega)) H<|O.oc 2 H ?_
  exact J.lp 4 (show 4≤6∧(1≤4→0≤id∧id≤281474976710655)∧(2≤4→-1≤fr∧fr≤7)∧(3≤4→0≤to∧to≤7)∧(4≤4→0≤level∧level≤127)∧(5≤4→0≤dl∧dl≤1099511627776)∧(6≤4→0≤bu∧bu≤65535) from ⟨by omega,by omega,by omega,by omega,by omega,by omega,by omega⟩) (show 6-4 < 6-3 from (by omega)) ⟨H,H,H,(congrArg (fun z=>some (Value.int .i64 z)) (by first|rfl|omega:(3+1:Int)=(4:Int))),trivial⟩ [1,2] (by decide) H
 ·
  show J _ _ [(1,.pointer (some ⟨g1,0,none⟩)),(5,v2),(6,.int .i64 6),(7,.int .i64 4)] [var g1 [.int .i64 id,.int .i64 fr,.int .i64 to,.int .i64 level,.int .i64 dl,.int .i64 bu] 41,row v2 336 5 (([Nd.rq0,Nd.rq1,Nd.rq2,Nd.rq3,Nd.rq4,Nd.rq5]).map (Nd.Pt.cells g1))]
  refine J.co 11 H ?_
  have he20:([Nd.rq0,Nd.rq1,Nd.rq2,Nd.rq3,Nd.rq4,Nd.rq5])[4]?=some Nd.rq4:=rfl
  refine O.q (Qt.ix U332 Z336 H (Src.row 1 H) he20 H (by rfl)) H<|O.q (Qt.lea isAgg336 Z336 (Src.row 1 H) he20 0 H (by omega) H) H<|O.l (Lo.al Y336 H) H ?_
  rintro _ _ ⟨g21,rfl,rfl⟩
  refine O.l0 (Lo.st 0 Z336 H H H H H H H) ?_
  rintro _ _ rfl
  refine O.oc 2 H<|J.drawStill Tryz.mixed (by kernel_rfl)<|S.r 1 H<|S.q (Qt.lv 0 A305 H H H) H<|S.r 1 H<|S.q (Qt.lv 1 A3 H H H) H<|S.r 1 H<|S.q (Qt.lv 0 A3 H H H) H<|S.r 2 H ?_
  refine S.sd 18 H (fun p22=>?_) (fun p22=>?_)
  ·
   refine S.r 8 H<|S.endJ<|J.cc 5 H ?_
   exact J.r0 H H ⟨(by rw [if_neg (by rw [Nd.okQ_no (by omega)];decide)];rfl),H⟩
  refine S.r 1 H<|S.gz (Qt.lv 0 A305 H H H) H H<|S.r 1 H<|S.gz (Qt.lv 1 A3 H H H) H H<|S.r 1 H<|S.gz (Qt.lv 0 A3 H H H) H H<|S.r 2 H<|S.endJ ?_
  refine J.cd H (fun p23=>?_) (fun p23=>?_)
  ·
   refine J.cc 4 H ?_
   exact J.r0 H H ⟨(by rw [if_neg (by rw [Nd.okQ_no (by omega)];decide)];rfl),H⟩
  refine J.co 3 H<|O.p (Pu.add' H H (by omega)) H<|O.oc 2 H ?_
  exact J.lp 5 (show 5≤6∧(1≤5→0≤id∧id≤281474976710655)∧(2≤5→-1≤fr∧fr≤7)∧(3≤5→0≤to∧to≤7)∧(4≤5→0≤level∧level≤127)∧(5≤5→0≤dl∧dl≤1099511627776)∧(6≤5→0≤bu∧bu≤65535) from ⟨by omega,by omega,by omega,by omega,by omega,by omega,by omega⟩) (show 6-5 < 6-4 from (by omega)) ⟨H,H,H,(congrArg (fun z=>some (Value.int .i64 z)) (by first|rfl|omega:(4+1:Int)=(5:Int))),trivial⟩ [1,2] (by decide) H
 ·
  show J _ _ [(1,.pointer (some ⟨g1,0,none⟩)),(5,v2),(6,.int .i64 6),(7,.int .i64 5)] [var g1 [.int .i64 id,.int .i64 fr,.int .i64 to,.int .i64 level,.int .i64 dl,.int .i64 bu] 41,row v2 336 5 (([Nd.rq0,Nd.rq1,Nd.rq2,Nd.rq3,Nd.rq4,Nd.rq5]).map (Nd.Pt.cells g1))]
  refine J.co 11 H ?_
  have he24:([Nd.rq0,Nd.rq1,Nd.rq2,Nd.rq3,Nd.rq4,Nd.rq5])[5]?=some Nd.rq5:=rfl
  refine O.q (Qt.ix U332 Z336 H (Src.row 1 H) he24 H (by rfl)) H<|O.q (Qt.lea isAgg336 Z336 (Src.row 1 H) he24 0 H (by omega) H) H<|O.l (Lo.al Y336 H) H ?_
  rintro _ _ ⟨g25,rfl,rfl⟩
  refine O.l0 (Lo.st 0 Z336 H H H H H H H) ?_
  rintro _ _ rfl
  refine O.oc 2 H<|J.drawStill Tryz.mixed (by kernel_rfl)<|S.r 1 H<|S.q (Qt.lv 0 A305 H H H) H<|S.r 1 H<|S.q (Qt.lv 1 A3 H H H) H<|S.r 1 H<|S.q (Qt.lv 0 A3 H H H) H<|S.r 2 H ?_
  refine S.sd 18 H (fun p26=>?_) (fun p26=>?_)
  ·
   refine S.r 8 H<|S.endJ<|J.cc 5 H ?_
   exact J.r0 H H ⟨(by rw [if_neg (by rw [Nd.okQ_no (by omega)];decide)];rfl),H⟩
  refine S.r 1 H<|S.gz (Qt.lv 0 A305 H H H) H H<|S.r 1 H<|S.gz (Qt.lv 1 A3 H H H) H H<|S.r 1 H<|S.gz (Qt.lv 0 A3 H H H) H H<|S.r 2 H<|S.endJ ?_
  refine J.cd H (fun p27=>?_) (fun p27=>?_)
  ·
   refine J.cc 4 H ?_
   exact J.r0 H H ⟨(by rw [if_neg (by rw [Nd.okQ_no (by omega)];decide)];rfl),H⟩
  refine J.co 3 H<|O.p (Pu.add' H H (by omega)) H<|O.oc 2 H ?_
  exact J.lp 6 (show 6≤6∧(1≤6→0≤id∧id≤281474976710655)∧(2≤6→-1≤fr∧fr≤7)∧(3≤6→0≤to∧to≤7)∧(4≤6→0≤level∧level≤127)∧(5≤6→0≤dl∧dl≤1099511627776)∧(6≤6→0≤bu∧bu≤65535) from ⟨by omega,by omega,by omega,by omega,by omega,by omega,by omega⟩) (show 6-6 < 6-5 from (by omega)) ⟨H,H,H,(congrArg (fun z=>some (Value.int .i64 z)) (by first|rfl|omega:(5+1:Int)=(6:Int))),trivial⟩ [1,2] (by decide) H
 show J _ _ [(1,.pointer (some ⟨g1,0,none⟩)),(5,v2),(6,.int .i64 6),(7,.int .i64 6)] [var g1 [.int .i64 id,.int .i64 fr,.int .i64 to,.int .i64 level,.int .i64 dl,.int .i64 bu] 41,row v2 336 5 (([Nd.rq0,Nd.rq1,Nd.rq2,Nd.rq3,Nd.rq4,Nd.rq5]).map (Nd.Pt.cells g1))]
 refine J.co 11 H<|O.q (Qt.lv 0 A3 H H H) H<|O.oo 1 H<|O.q (Qt.lv 0 A3 H H H) H<|O.oc 2 H ?_
 refine J.cd H (fun p28=>?_) (fun p28=>?_)
 ·
  refine J.cc 4 H ?_
  exact J.r0 H H ⟨(by rw [if_neg (by rw [Nd.okQ_no (by omega)];decide)];rfl),H⟩
 refine J.cc 5 H ?_
 exact J.r0 H H ⟨(by rw [if_pos (Nd.okQ_iff.2 (by omega))];rfl),H⟩
theorem rp_Name (code:Int):Tri prog 196 #[.int .i64 code] [var 1 (Nd.rnames.map vS) 348] [] (fun v L'=>∃ s,v=.tuple #[str s,.bool (Nd.within code 1 10)]∧L'=[]):=by
 refine Tri.en func196 H ntmps196 H fun w0=>J.co 9 H<|O.l (Lo.ca call197 (rp_within code 1 10) [] H H .nil) H ?_
 rintro _ _ ⟨_,⟨rfl,rfl⟩,rfl⟩
 refine O.oc 2 H ?_
 refine J.cond H (fun h2=>?_) (fun h2=>?_)
 ·
  have h3:(Nd.within code 1 10)=false:=not_flip h2
  refine J.cc 5 H ?_
  exact J.rn [_,_] [] H ⟨H,H,trivial⟩ H ⟨_,(by simp only [*];rfl),H⟩
 have h4:(Nd.within code 1 10)=true:=not_flip h2
 refine J.co 4 H<|O.p (Pu.sub' H H (by have h_:=Nd.within_iff.1 (by assumption:Nd.within code 1 10=true);omega)) H ?_
 obtain ⟨e5,he6⟩:=ex_at (l:=Nd.rnames) (i:=(code-1).toNat) (by have h_:=Nd.within_iff.1 (by assumption:Nd.within code 1 10=true);have h2_:Nd.rnames.length=10:=rfl;omega)
 refine O.p (Pu.indexAddrG runUnderlying348 sizeOf9 H H (by have h_:=Nd.within_iff.1 (by assumption:Nd.within code 1 10=true);have h2_:Nd.rnames.length=10:=rfl;omega) (by have h_:=Nd.within_iff.1 (by assumption:Nd.within code 1 10=true);have h2_:Nd.rnames.length=10:=rfl;omega)) H<|O.q (Qt.ld H (Cel.roVar 0 H) (o:=0) (off:=(code-1).toNat) (by omega) (Cut.one isAgg9 (at_map he6))) H<|O.oc 3 H ?_
 exact J.rn [_,_] [] H ⟨H,H,trivial⟩ H ⟨_,(by simp only [*];rfl),H⟩
theorem rp_Check (id fr to code thr ep tier:Int):Tri prog 91 #[.agg #[.int .i64 id,.int .i64 fr,.int .i64 to,.int .i64 code,.int .i64 thr,.int .i64 ep,.int .i64 tier]] [var 1 (Nd.rnames.map vS) 348] [] (fun v L'=>v=.int .i64 (if Nd.okR id fr to code thr ep tier=true then 0 else 1)∧L'=[]):=by
 refine Tri.en func91 H ntmps91 H fun w0=>J.co 2 H<|O.l (Lo.bx H H) H ?_
 rintro _ _ ⟨g1,rfl,rfl⟩
 refine O.oo 5 H<|O.q (Qt.lv 0 A3 H H H) H<|O.l (Lo.ca call196 (rp_Name code) [] H H (.ro 0 H .nil)) H ?_
 rintro _ _ ⟨_,⟨s2,rfl,rfl⟩,rfl⟩
 refine O.oo 16 H ?_
 refine O.sp 14 H (fun h4=>?_) (fun h4=>?_)
 ·
  have h5:(Nd.within code 1 10)=false:=not_flip h4
  refine O.oc 32 H ?_
  exact J.r0 H H ⟨by simp [vOf,Nd.okR, *],rfl⟩
 have h6:(Nd.within code 1 10)=true:=not_flip h4
 refine O.oo 1 H<|O.gz (Qt.lv 0 A3 H H H) H H<|O.oo 1 H<|O.gz (Qt.lv 0 A3 H H H) H H<|O.oo 3 H ?_
 refine O.sd 21 H (fun p7=>?_) (fun p7=>?_)
 ·
  refine O.oc 25 H ?_
  exact J.r0 H H ⟨by simp [vOf,Nd.okR, *],rfl⟩
 refine O.oo 1 H<|O.gz (Qt.lv 0 A3 H H H) H H<|O.gy (Lo.ca call197 (rp_within id 0 281474976710655) [] H H .nil) H H ?_
 rintro _ _ ⟨_,⟨rfl,rfl⟩,rfl⟩
 refine O.oo 3 H ?_
 refine O.sp 27 H (fun h9=>?_) (fun h9=>?_)
 ·
  have h10:(Nd.within id 0 281474976710655)=false:=not_flip h9
  refine O.oc 19 H ?_
  exact J.r0 H H ⟨by simp [vOf,Nd.okR, *],rfl⟩
 have h11:(Nd.within id 0 281474976710655)=true:=not_flip h9
 refine O.oo 1 H<|O.gz (Qt.lv 0 A3 H H H) H H<|O.oo 1 H<|O.gy (Lo.ca call197 (rp_within fr 0 7) [] H H .nil) H H ?_
 rintro _ _ ⟨_,⟨rfl,rfl⟩,rfl⟩
 refine O.oo 3 H ?_
 refine O.sp 34 H (fun h13=>?_) (fun h13=>?_)
 ·
  have h14:(Nd.within fr 0 7)=false:=not_flip h13
  refine O.oc 12 H ?_
  exact J.r0 H H ⟨by simp [vOf,Nd.okR, *],rfl⟩
 have h15:(Nd.within fr 0 7)=true:=not_flip h13
 refine O.oo 1 H<|O.gz (Qt.lv 0 A3 H H H) H H<|O.oo 1 H<|O.gy (Lo.ca call197 (rp_within to (-1) 7) [] H H .nil) H H ?_
 rintro _ _ ⟨_,⟨rfl,rfl⟩,rfl⟩
 refine O.oc 3 H ?_
 refine J.cond H (fun h17=>?_) (fun h17=>?_)
 ·
  have h18:(Nd.within to (-1) 7)=false:=not_flip h17
  refine J.cc 4 H ?_
  exact J.r0 H H ⟨by simp [vOf,Nd.okR, *],rfl⟩
 have h19:(Nd.within to (-1) 7)=true:=not_flip h17
 refine J.co 5 H<|O.q (Qt.lv 0 A3 H H H) H<|O.l (Lo.ca call197 (rp_within thr 0 128) [] H H .nil) H ?_
 rintro _ _ ⟨_,⟨rfl,rfl⟩,rfl⟩
 refine O.oo 2 H ?_
 refine O.sp 45 H (fun h21=>?_) (fun h21=>?_)
 ·
  have h22:(Nd.within thr 0 128)=false:=not_flip h21
  refine O.oc 17 H ?_
  exact J.r0 H H ⟨by simp [vOf,Nd.okR, *],rfl⟩
 have h23:(Nd.within thr 0 128)=true:=not_flip h21
 refine O.oo 1 H<|O.gz (Qt.lv 0 A3 H H H) H H<|O.gy (Lo.ca call197 (rp_within ep 0 4294967295) [] H H .nil) H H ?_
 rintro _ _ ⟨_,⟨rfl,rfl⟩,rfl⟩
 refine O.oo 3 H ?_
 refine O.sp 51 H (fun h25=>?_) (fun h25=>?_)
 ·
  have h26:(Nd.within ep 0 4294967295)=false:=not_flip h25
  refine O.oc 11 H ?_
  exact J.r0 H H ⟨by simp [vOf,Nd.okR, *],rfl⟩
 have h27:(Nd.within ep 0 4294967295)=true:=not_flip h25
 refine O.oo 1 H<|O.gz (Qt.lv 0 A3 H H H) H H<|O.gy (Lo.ca call197 (rp_within tier 0 7) [] H H .nil) H H ?_
 rintro _ _ ⟨_,⟨rfl,rfl⟩,rfl⟩
 refine O.oc 3 H ?_
 refine J.cond H (fun h29=>?_) (fun h29=>?_)
 ·
  have h30:(Nd.within tier 0 7)=false:=not_flip h29
  refine J.cc 4 H ?_
  exact J.r0 H H ⟨by simp [vOf,Nd.okR, *],rfl⟩
 have h31:(Nd.within tier 0 7)=true:=not_flip h29
 refine J.cc 5 H ?_
 exact J.r0 H H ⟨by simp [vOf,Nd.okR, *],rfl⟩
theorem oc_wide (w:Int):Tri prog 282 #[.int .i64 w] [] [] (fun v L'=>v=.bool (Nd.within w 1 6)∧L'=[]):=by
 refine Tri.en func282 H ntmps282 H fun w0=>J.co 9 H ?_
 refine O.sd 5 H (fun p1=>?_) (fun p1=>?_)
 ·
  refine O.oc 5 H ?_
  exact J.r0 H H ⟨by simp [vOf,Nd.within, *],rfl⟩
 refine O.oc 5 H ?_
 exact J.r0 H H ⟨by simp [vOf,Nd.within, *],rfl⟩
theorem oc_Put (n w:Int):Tri prog 203 #[str ([]),.int .i64 n,.int .i64 w] [] [] (fun v L'=>∃ s,v=.tuple #[str s,.int .i64 (if Nd.fits n w=true then 0 else 1)]∧L'=[]):=by
 refine Tri.en func203 H ntmps203 H fun w0=>J.co 9 H<|O.l (Lo.ca call282 (oc_wide w) [] H H .nil) H ?_
 rintro _ _ ⟨_,⟨rfl,rfl⟩,rfl⟩
 refine O.oo 2 H ?_
 refine O.sp 13 H (fun h2=>?_) (fun h2=>?_)
 ·
  have h3:(Nd.within w 1 6)=false:=not_flip h2
  refine O.oc 17 H ?_
  exact J.rn [_,_] [] H ⟨H,H,trivial⟩ H ⟨([]:List UInt8),by simp [vOf,Nd.fits, *],rfl⟩
 have h4:(Nd.within w 1 6)=true:=not_flip h2
 refine O.oo 4 H ?_
 refine O.sd 17 H (fun p5=>?_) (fun p5=>?_)
 ·
  refine O.oc 13 H ?_
  exact J.rn [_,_] [] H ⟨H,H,trivial⟩ H ⟨([]:List UInt8),by simp [vOf,Nd.fits, *],rfl⟩
 refine O.oo 2 H<|O.gz (Pu.qt (Pu.mul' H H (by first|omega|(have hw_:=Nd.within_iff.1 (by assumption:Nd.within w 1 6=true);omega)))) H H<|O.gz (Pu.qt (Pu.shrN H H (by first|omega|(have hw_:=Nd.within_iff.1 (by assumption:Nd.within w 1 6=true);omega)))) H H<|O.oc 3 H ?_
 refine J.cd H (fun p6=>?_) (fun p6=>?_)
 ·
  refine J.cc 5 H ?_
  exact J.rn [_,_] [] H ⟨H,H,trivial⟩ H ⟨([]:List UInt8),by simp [vOf,Nd.fits, *],rfl⟩
 refine J.co 4 H<|O.l (Lo.bytesE underlying9 underlying351 underlying5 H) H ?_
 rintro V7 _ rfl
 refine O.oc 9 H ?_
 refine J.lo (X:=Int×Value×List Int) (fun (k,V,ns)=>0≤k∧k≤w∧(ns.length:Int)=k) (fun (k,V,ns)=>[(8,V),(27,.int .i64 k)]) (fun (k,V,ns)=>[rowz V 5 ns]) (fun (k,V,ns)=>(w-k).toNat) ⟨0,V7,([]:List Int)⟩ [1,2,6,7,26] [0] [] (by have hw_:=Nd.within_iff.1 (by assumption:Nd.within w 1 6=true);exact ⟨by omega,by omega,rfl⟩) ⟨H,H,trivial⟩ H H ?_
 rintro ⟨k,V,ns⟩ ⟨hk0,hk1,hns⟩
 refine J.cc 5 H ?_
 refine J.cd H (fun p8=>?_) (fun p8=>?_)
 ·
  refine J.co 12 H<|O.p (Pu.sub' H H (by first|omega|(have hw_:=Nd.within_iff.1 (by assumption:Nd.within w 1 6=true);omega))) H<|O.oo 1 H<|O.p (Pu.sub' H H (by first|omega|(have hw_:=Nd.within_iff.1 (by assumption:Nd.within w 1 6=true);omega))) H<|O.p (Pu.mul' H H (by first|omega|(have hw_:=Nd.within_iff.1 (by assumption:Nd.within w 1 6=true);omega))) H<|O.p (Pu.shrN H H (by omega)) H<|O.p (Pu.conv U3 runUnderlying5 H) H<|O.l (Lo.bm encU [IntKind.u8.wrap (shrI .i64 n (8*((w-1)-k)))] runUnderlying351 Z5 zeroValue5 H H H (by kernel_rfl) H H) H ?_
  rintro V9 _ rfl
  refine O.l (Lo.appendZ 1 underlying351 (by exact (info5).1) (by exact (info5).2.1) (by exact (info5).2.2.1) (by exact (info5).2.2.2) H H H (Src.row 0 H) (by simp) (by first|omega|(have hw_:=Nd.within_iff.1 (by assumption:Nd.within w 1 6=true);simp only [List.length_append,List.length_cons,List.length_nil];omega))) H ?_
  rintro V10 _ rfl
  refine O.oo 4 H<|O.p (Pu.add' H H (by first|omega|(have hw_:=Nd.within_iff.1 (by assumption:Nd.within w 1 6=true);omega))) H<|O.oc 2 H ?_
  exact J.lq ⟨k+1,V10,ns++([IntKind.u8.wrap (shrI .i64 n (8*((w-1)-k)))])⟩ [1,2,6,7,26] [1] [] ⟨by omega,by omega,by simp only [List.length_append,List.length_cons,List.length_nil];omega⟩ (by dsimp only;omega) ⟨H,H,trivial⟩ H H
 refine J.co 4 H<|O.l (Lo.strZ 0 runUnderlying351 runUnderlying5 runUnderlying9 H H) H ?_
 rintro _ _ ⟨⟨s11,rfl⟩,rfl⟩
 refine O.oc 3 H ?_
 exact J.rn [_,_] [] H ⟨H,H,trivial⟩ H ⟨s11,by simp [vOf,Nd.fits, *],rfl⟩
theorem pu_numbers (to ver k0 k1 k2 k3 k4 k5 k6:Int):Tri prog 202 #[.agg #[.int .i64 to,.int .i64 ver,.int .i64 k0,.int .i64 k1,.int .i64 k2,.int .i64 k3,.int .i64 k4,.int .i64 k5,.int .i64 k6]] [] [] (fun v L'=>v=.agg ([to,ver,k0,k1,k2,k3,k4,k5,k6].map vI).toArray∧L'=[]):=by
 refine Tri.en func202 H ntmps202 H fun w0=>J.co 2 H<|O.l (Lo.bx H H) H ?_
 rintro _ _ ⟨g1,rfl,rfl⟩
 refine O.l (Lo.al zeroValue282 H) H ?_
 rintro _ _ ⟨g2,rfl,rfl⟩
 refine O.oo 4 H<|O.q (Qt.lva 1 A45 Z45 H H H) H<|O.l (Lo.al zeroValue45 H) H ?_
 rintro _ _ ⟨g3,rfl,rfl⟩
 refine O.l0 (Lo.st 0 Z45 H H H H H H H) ?_
 rintro _ _ rfl
 refine O.oo 4 H<|O.q (Qt.lv 2 A3 H H H) H<|O.oo 1 H<|O.q (Qt.lv 2 A3 H H H) H<|O.p (Pu.buildA [(0,.int .i64 to),(1,.int .i64 ver)] [.int .i64 to,.int .i64 ver,.int .i64 0,.int .i64 0,.int .i64 0,.int .i64 0,.int .i64 0,.int .i64 0,.int .i64 0] U282 zeroValue282 Z3 H (by kernel_rfl)) H<|O.l (Lo.al zeroValue282 H) H ?_
 rintro _ _ ⟨g4,rfl,rfl⟩
 refine O.l0 (Lo.st 0 sizeOf282 H H H H H H H) ?_
 rintro _ _ rfl
 refine O.oc 2 H<|J.dm [(0,false),(1,false),(2,false),(3,false),(4,false),(5,false),(6,false),(7,false),(8,false),(9,false),(10,false),(11,false),(12,false),(13,false),(14,false),(15,true),(16,true)] [1] Tryz.mixed (by kernel_rfl) H<|Mx.p H (Pu.tailArr (lo:=2) U282 Z3 H H H) H<|Mx.r 1 H<|Mx.q H (Qt.lv 0 A3 H H H) H<|Mx.r 1 H<|Mx.q H (Qt.lv 0 A3 H H H) H<|Mx.r 1 H<|Mx.q H (Qt.lv 0 A3 H H H) H<|Mx.r 1 H<|Mx.q H (Qt.lv 0 A3 H H H) H<|Mx.r 1 H<|Mx.q H (Qt.lv 0 A3 H H H) H<|Mx.r 1 H<|Mx.q H (Qt.lv 0 A3 H H H) H<|Mx.r 1 H<|Mx.q H (Qt.lv 0 A3 H H H) H<|Mx.l H (Lo.bm encZ [k0,k1,k2,k3,k4,k5,k6] U60 Z3 Y3 H H H (by kernel_rfl) H H) H ?_
 rintro V5 _ rfl
 refine MxK.gp [2] [0] H H<|Mx.l H (Lo.copyV 1 (f:=vI) (l:=[k0,k1,k2,k3,k4,k5,k6]) [.int .i64 to,.int .i64 ver,.int .i64 k0,.int .i64 k1,.int .i64 k2,.int .i64 k3,.int .i64 k4,.int .i64 k5,.int .i64 k6] N60 (by exact (info3).1) (by rfl) H H H (Src.row 0 H) H H (fun _ _=>H) H H) H ?_
 rintro _ _ ⟨rfl,rfl⟩
 refine MxK.al [2] H (by kernel_rfl)<|Mx.nil<|J.co 2 H<|O.q (Qt.lva 1 isAgg282 sizeOf282 H H H) H<|O.l0 (Lo.st 3 sizeOf282 H H H H H H H) ?_
 rintro _ _ rfl
 refine O.nil ?_
 exact J.rn [_] [] H ⟨⟨_,_,0,0,_,H,(Cel.var 3 H),H,(Cut.agg [.int .i64 to,.int .i64 ver,.int .i64 k0,.int .i64 k1,.int .i64 k2,.int .i64 k3,.int .i64 k4,.int .i64 k5,.int .i64 k6] isAgg282 sizeOf282 H H)⟩,trivial⟩ H ⟨H,H⟩
theorem pu_Check (to ver k0 k1 k2 k3 k4 k5 k6:Int):Tri prog 98 #[.agg #[.int .i64 to,.int .i64 ver,.int .i64 k0,.int .i64 k1,.int .i64 k2,.int .i64 k3,.int .i64 k4,.int .i64 k5,.int .i64 k6]] [var 0 (Nd.widths.map vI) 282] [] (fun v L'=>v=.int .i64 (if Nd.okP to [to,ver,k0,k1,k2,k3,k4,k5,k6]=true then 0 else 1)∧L'=[]):=by
 refine Tri.en func98 H ntmps98 H fun w0=>J.co 2 H<|O.l (Lo.bx H H) H ?_
 rintro _ _ ⟨g1,rfl,rfl⟩
 refine O.oo 6 H<|O.q (Qt.lv 0 A3 H H H) H<|O.oc 2 H ?_
 refine J.cd H (fun p2=>?_) (fun p2=>?_)
 ·
  refine J.cc 4 H ?_
  exact J.r0 H H ⟨(by first|(rw [Nd.okP_no (by omega)];rfl)|(rw [if_pos (Nd.okP_all (by omega) hst (by omega))];rfl)|(simp only [vOf];rw [if_neg (Nd.fits_no (by assumption)),if_neg (by rw [Nd.okP_bad (by assumption) (by assumption) (Nd.fits_no (by assumption))];decide)])),H⟩
 refine J.co 4 H<|O.q (Qt.lva 0 isAgg47 sizeOf47 H H H) H<|O.l (Lo.ca call202 (pu_numbers to ver k0 k1 k2 k3 k4 k5 k6) [] H H .nil) H ?_
 rintro _ _ ⟨_,⟨rfl,rfl⟩,rfl⟩
 refine O.oc 3 H ?_
 refine J.lo (X:=Nat) (fun k=>k≤9∧((([to,ver,k0,k1,k2,k3,k4,k5,k6]:List Int).zip Nd.widths).take k).all (fun p=>Nd.fits p.1 p.2)=true) (fun k=>[(12,.int .i64 (k:Int))]) (fun k=>[]) (fun k=>9-k) 0 [11] [] [] ⟨by omega,rfl⟩ ⟨(eqi (by omega)),trivial⟩ H H ?_
 rintro k ⟨hk,hst⟩
 refine J.cc 5 H ?_
 refine J.cd H (fun p4=>?_) (fun p4=>?_)
 ·
  refine J.co 6 H ?_
  obtain ⟨e5,he5⟩:=ex_at (l:=([to,ver,k0,k1,k2,k3,k4,k5,k6]:List Int)) (i:=k) (by first|omega|(have h1_:([to,ver,k0,k1,k2,k3,k4,k5,k6]:List Int).length=9:=rfl;have h2_:=Nd.widths_len;omega))
  refine O.p (Pu.indexKL (f:=vI) (l:=([to,ver,k0,k1,k2,k3,k4,k5,k6]:List Int)) U282 Z3 A3 H H H (by omega) (by omega) he5) H<|O.oo 7 H ?_
  obtain ⟨e6,he7⟩:=ex_at (l:=Nd.widths) (i:=((k:Int)).toNat) (by first|omega|(have h1_:([to,ver,k0,k1,k2,k3,k4,k5,k6]:List Int).length=9:=rfl;have h2_:=Nd.widths_len;omega))
  refine O.p (Pu.indexAddrG U282 Z3 H H (by omega) (by omega)) H<|O.q (Qt.ld H (Cel.roVar 0 H) (o:=0) (off:=((k:Int)).toNat) (by omega) (Cut.one A3 (at_map he7))) H<|O.l (Lo.ca call203 (oc_Put e5 e6) [] H H .nil) H ?_
  rintro _ _ ⟨_,⟨s8,rfl,rfl⟩,rfl⟩
  refine O.oc 11 H ?_
  refine J.cd H (fun p10=>?_) (fun p10=>?_)
  ·
   refine J.cc 5 H ?_
   exact J.r0 H H ⟨(by first|(rw [Nd.okP_no (by omega)];rfl)|(rw [if_pos (Nd.okP_all (by omega) hst (by omega))];rfl)|(simp only [vOf];rw [if_neg (Nd.fits_no (by assumption)),if_neg (by rw [Nd.okP_bad (by assumption) (by assumption) (Nd.fits_no (by assumption))];decide)])),H⟩
  refine J.co 3 H<|O.p (Pu.add' H H (by omega)) H<|O.oc 2 H ?_
  exact J.lq (k+1) [11] [] [] ⟨by omega,Nd.okP_next hst (by assumption) (by assumption) (Nd.fits_of (by assumption))⟩ (by omega) ⟨(eqi (by omega)),trivial⟩ H H
 refine J.cc 5 H ?_
 exact J.r0 H H ⟨(by first|(rw [Nd.okP_no (by omega)];rfl)|(rw [if_pos (Nd.okP_all (by omega) hst (by omega))];rfl)|(simp only [vOf];rw [if_neg (Nd.fits_no (by assumption)),if_neg (by rw [Nd.okP_bad (by assumption) (by assumption) (Nd.fits_no (by assumption))];decide)])),H⟩
end Go.Proofs.YtohjlkjhpibkmaaGreatDoor
