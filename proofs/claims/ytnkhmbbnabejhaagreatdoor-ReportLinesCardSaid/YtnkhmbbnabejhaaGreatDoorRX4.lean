/-
  Walks, printed by a program of mine (lk.py): each function meets its contract.
-/
import Derived.KernelRfl
import Derived.Test.YtnkhmbbnabejhaaGreatDoorRX1
import Derived.Test.YtnkhmbbnabejhaaGreatDoorCX2
import Derived.Test.YtnkhmbbnabejhaaGreatDoorReport1
namespace Go.Proofs.YtnkhmbbnabejhaaGreatDoor
open Go Go.LK
set_option linter.unusedSimpArgs false

set_option maxRecDepth 100000 in
theorem rp_Line (r : Rep) (hI : Kn.I64s (Rp.nums r)) : Tri Tryz.prog 8 #[.agg #[.int .i64 r.d0, .int .i64 r.d1, .int .i64 r.d2, .int .i64 r.d3, .int .i64 r.d4, .int .i64 r.d5, .int .i64 r.d6, .int .i64 r.d7, .int .i64 r.d8, .int .i64 r.d9, .int .i64 r.d10, .int .i64 r.d11]] [libW] [] (fun v L' => v = str (Rp.line r) ∧ L' = []) := by
 refine Tri.enter (args := [.agg #[.int .i64 r.d0, .int .i64 r.d1, .int .i64 r.d2, .int .i64 r.d3, .int .i64 r.d4, .int .i64 r.d5, .int .i64 r.d6, .int .i64 r.d7, .int .i64 r.d8, .int .i64 r.d9, .int .i64 r.d10, .int .i64 r.d11]]) (body := _) 20 Tryz.func8 rfl Tryz.ntmps8 rfl ?_
 intro w0
 refine J.seq ?_
 refine J.region ?_
 refine O.l (Lo.box [.int .i64 r.d0, .int .i64 r.d1, .int .i64 r.d2, .int .i64 r.d3, .int .i64 r.d4, .int .i64 r.d5, .int .i64 r.d6, .int .i64 r.d7, .int .i64 r.d8, .int .i64 r.d9, .int .i64 r.d10, .int .i64 r.d11] rfl rfl) rfl ?_
 rintro _ _ ⟨g1, rfl, rfl⟩
 refine O.p (Pu.assign rfl) rfl ?_
 refine O.nil ?_
 refine J.seq ?_
 refine J.region ?_
 refine O.p (Pu.assign rfl) rfl ?_
 refine O.nil ?_
 refine J.seq ?_
 refine J.seq ?_
 refine J.region ?_
 refine O.l (Lo.call [.pointer (some ⟨g1, 0, none⟩)] (by exact Tryz.call22) rfl (rp_fields g1) [] [0] (by decide) rfl [var g1 [.int .i64 r.d0, .int .i64 r.d1, .int .i64 r.d2, .int .i64 r.d3, .int .i64 r.d4, .int .i64 r.d5, .int .i64 r.d6, .int .i64 r.d7, .int .i64 r.d8, .int .i64 r.d9, .int .i64 r.d10, .int .i64 r.d11] 23] rfl RoOk.nil) rfl ?_
 rintro _ _ ⟨_, ⟨rfl, rfl⟩, rfl⟩
 refine O.p (Pu.move rfl) rfl ?_
 refine O.nil ?_
 refine J.block ?_
 refine J.nilRow 3 1 ?_
 refine J.loop (X := Nat × Value) (fun ξ => ξ.1 ≤ 12) (fun ξ => [(2, str ([] : List UInt8)), (3, ξ.2), (6, .agg #[.pointer (some ⟨g1, 0, none⟩), .pointer (some ⟨g1, 1, none⟩), .pointer (some ⟨g1, 2, none⟩), .pointer (some ⟨g1, 3, none⟩), .pointer (some ⟨g1, 4, none⟩), .pointer (some ⟨g1, 5, none⟩), .pointer (some ⟨g1, 6, none⟩), .pointer (some ⟨g1, 7, none⟩), .pointer (some ⟨g1, 8, none⟩), .pointer (some ⟨g1, 9, none⟩), .pointer (some ⟨g1, 10, none⟩), .pointer (some ⟨g1, 11, none⟩)]), (7, .int .i64 (ξ.1 : Int))]) (fun ξ => [var g1 [.int .i64 r.d0, .int .i64 r.d1, .int .i64 r.d2, .int .i64 r.d3, .int .i64 r.d4, .int .i64 r.d5, .int .i64 r.d6, .int .i64 r.d7, .int .i64 r.d8, .int .i64 r.d9, .int .i64 r.d10, .int .i64 r.d11] 23, row ξ.2 3 1 (([r.d0, r.d1, r.d2, r.d3, r.d4, r.d5, r.d6, r.d7, r.d8, r.d9, r.d10, r.d11].take ξ.1).map encZ)]) (fun ξ => 12 - ξ.1) ⟨0, Value.slice none 0 0⟩ (show 0 ≤ 12 from (by omega)) ⟨rfl, rfl, rfl, (congrArg (fun z => some (Value.int .i64 z)) (by first | rfl | omega : (0 : Int) = (0 : Int))), trivial⟩ [1, 0] (by decide) rfl ?_
 rintro ⟨k, V⟩ hq3
 obtain hk : k ≤ 12 := hq3
 show J _ _ [(2, str ([] : List UInt8)), (3, V), (6, .agg #[.pointer (some ⟨g1, 0, none⟩), .pointer (some ⟨g1, 1, none⟩), .pointer (some ⟨g1, 2, none⟩), .pointer (some ⟨g1, 3, none⟩), .pointer (some ⟨g1, 4, none⟩), .pointer (some ⟨g1, 5, none⟩), .pointer (some ⟨g1, 6, none⟩), .pointer (some ⟨g1, 7, none⟩), .pointer (some ⟨g1, 8, none⟩), .pointer (some ⟨g1, 9, none⟩), .pointer (some ⟨g1, 10, none⟩), .pointer (some ⟨g1, 11, none⟩)]), (7, .int .i64 (k : Int))] [var g1 [.int .i64 r.d0, .int .i64 r.d1, .int .i64 r.d2, .int .i64 r.d3, .int .i64 r.d4, .int .i64 r.d5, .int .i64 r.d6, .int .i64 r.d7, .int .i64 r.d8, .int .i64 r.d9, .int .i64 r.d10, .int .i64 r.d11] 23, row V 3 1 (([r.d0, r.d1, r.d2, r.d3, r.d4, r.d5, r.d6, r.d7, r.d8, r.d9, r.d10, r.d11].take k).map encZ)]
 obtain rfl | rfl | rfl | rfl | rfl | rfl | rfl | rfl | rfl | rfl | rfl | rfl | rfl : k = 0 ∨ k = 1 ∨ k = 2 ∨ k = 3 ∨ k = 4 ∨ k = 5 ∨ k = 6 ∨ k = 7 ∨ k = 8 ∨ k = 9 ∨ k = 10 ∨ k = 11 ∨ k = 12 := by omega
 ·
  show J _ _ [(2, str ([] : List UInt8)), (3, V), (6, .agg #[.pointer (some ⟨g1, 0, none⟩), .pointer (some ⟨g1, 1, none⟩), .pointer (some ⟨g1, 2, none⟩), .pointer (some ⟨g1, 3, none⟩), .pointer (some ⟨g1, 4, none⟩), .pointer (some ⟨g1, 5, none⟩), .pointer (some ⟨g1, 6, none⟩), .pointer (some ⟨g1, 7, none⟩), .pointer (some ⟨g1, 8, none⟩), .pointer (some ⟨g1, 9, none⟩), .pointer (some ⟨g1, 10, none⟩), .pointer (some ⟨g1, 11, none⟩)]), (7, .int .i64 0)] [var g1 [.int .i64 r.d0, .int .i64 r.d1, .int .i64 r.d2, .int .i64 r.d3, .int .i64 r.d4, .int .i64 r.d5, .int .i64 r.d6, .int .i64 r.d7, .int .i64 r.d8, .int .i64 r.d9, .int .i64 r.d10, .int .i64 r.d11] 23, row V 3 1 (([r.d0, r.d1, r.d2, r.d3, r.d4, r.d5, r.d6, r.d7, r.d8, r.d9, r.d10, r.d11].take 0).map encZ)]
  refine J.seq ?_
  refine J.region ?_
  refine O.p (Pu.lss rfl rfl) rfl ?_
  refine O.nil ?_
  refine J.seq ?_
  refine J.condT rfl rfl ?_
  refine J.skip ?_
  refine J.seq ?_
  refine J.block ?_
  refine J.seq ?_
  refine J.region ?_
  refine O.p (Pu.indexK1 (cs := [.pointer (some ⟨g1, 0, none⟩), .pointer (some ⟨g1, 1, none⟩), .pointer (some ⟨g1, 2, none⟩), .pointer (some ⟨g1, 3, none⟩), .pointer (some ⟨g1, 4, none⟩), .pointer (some ⟨g1, 5, none⟩), .pointer (some ⟨g1, 6, none⟩), .pointer (some ⟨g1, 7, none⟩), .pointer (some ⟨g1, 8, none⟩), .pointer (some ⟨g1, 9, none⟩), .pointer (some ⟨g1, 10, none⟩), .pointer (some ⟨g1, 11, none⟩)]) Tryz.runUnderlying53 Tryz.sizeOf52 Tryz.isAgg52 rfl rfl (by decide) (by decide) rfl) rfl ?_
  refine O.p (Pu.assign rfl) rfl ?_
  refine O.nil ?_
  refine J.region ?_
  refine O.p (Pu.move rfl) rfl ?_
  refine O.p (Pu.move rfl) rfl ?_
  refine O.p (Pu.nilCheck rfl) rfl ?_
  refine O.q (Qt.ld rfl (Cel.var 0 rfl) (o := 0) (off := 0) rfl (Cut.one Tryz.isAgg3 rfl)) rfl ?_
  refine O.l (Lo.buildM (s := 1) encZ [r.d0] [(0, .int .i64 r.d0)] (by exact Tryz.runUnderlying34) (by exact Tryz.sizeOf3) (by exact Tryz.zeroValue3) rfl rfl rfl (by kernel_rfl) rfl rfl) rfl ?_
  rintro V4 _ rfl
  refine O.l (Lo.appendM (s := 1) 2 (by exact Tryz.underlying34) (by exact (info3).1) (by exact (info3).2.1) (by exact (info3).2.2.1) (by exact (info3).2.2.2) rfl rfl rfl rfl rfl (Src.row 0 rfl) encZ.one (by first | omega | decide | (simp; done)) (by first | omega | decide | (simp; done))) rfl ?_
  rintro V5 _ rfl
  refine O.p (Pu.assign rfl) rfl ?_
  refine O.nil ?_
  refine J.blk ?_
  refine J.region ?_
  refine O.p (Pu.add' rfl rfl (by first | omega | (simp only [List.length_append, List.length_cons, List.length_nil, List.length_set]; omega))) rfl ?_
  refine O.p (Pu.move rfl) rfl ?_
  refine O.nil ?_
  exact J.lp ⟨1, V5⟩ (show 1 ≤ 12 from (by omega)) (show 12 - 1 < 12 - 0 from (by first | omega | decide | (simp; done))) ⟨rfl, rfl, rfl, (congrArg (fun z => some (Value.int .i64 z)) (by first | rfl | omega : (0 + 1 : Int) = (1 : Int))), trivial⟩ [1, 2] (by decide) rfl
 ·
  show J _ _ [(2, str ([] : List UInt8)), (3, V), (6, .agg #[.pointer (some ⟨g1, 0, none⟩), .pointer (some ⟨g1, 1, none⟩), .pointer (some ⟨g1, 2, none⟩), .pointer (some ⟨g1, 3, none⟩), .pointer (some ⟨g1, 4, none⟩), .pointer (some ⟨g1, 5, none⟩), .pointer (some ⟨g1, 6, none⟩), .pointer (some ⟨g1, 7, none⟩), .pointer (some ⟨g1, 8, none⟩), .pointer (some ⟨g1, 9, none⟩), .pointer (some ⟨g1, 10, none⟩), .pointer (some ⟨g1, 11, none⟩)]), (7, .int .i64 1)] [var g1 [.int .i64 r.d0, .int .i64 r.d1, .int .i64 r.d2, .int .i64 r.d3, .int .i64 r.d4, .int .i64 r.d5, .int .i64 r.d6, .int .i64 r.d7, .int .i64 r.d8, .int .i64 r.d9, .int .i64 r.d10, .int .i64 r.d11] 23, row V 3 1 (([r.d0, r.d1, r.d2, r.d3, r.d4, r.d5, r.d6, r.d7, r.d8, r.d9, r.d10, r.d11].take 1).map encZ)]
  refine J.seq ?_
  refine J.region ?_
  refine O.p (Pu.lss rfl rfl) rfl ?_
  refine O.nil ?_
  refine J.seq ?_
  refine J.condT rfl rfl ?_
  refine J.skip ?_
  refine J.seq ?_
  refine J.block ?_
  refine J.seq ?_
  refine J.region ?_
  refine O.p (Pu.indexK1 (cs := [.pointer (some ⟨g1, 0, none⟩), .pointer (some ⟨g1, 1, none⟩), .pointer (some ⟨g1, 2, none⟩), .pointer (some ⟨g1, 3, none⟩), .pointer (some ⟨g1, 4, none⟩), .pointer (some ⟨g1, 5, none⟩), .pointer (some ⟨g1, 6, none⟩), .pointer (some ⟨g1, 7, none⟩), .pointer (some ⟨g1, 8, none⟩), .pointer (some ⟨g1, 9, none⟩), .pointer (some ⟨g1, 10, none⟩), .pointer (some ⟨g1, 11, none⟩)]) Tryz.runUnderlying53 Tryz.sizeOf52 Tryz.isAgg52 rfl rfl (by decide) (by decide) rfl) rfl ?_
  refine O.p (Pu.assign rfl) rfl ?_
  refine O.nil ?_
  refine J.region ?_
  refine O.p (Pu.move rfl) rfl ?_
  refine O.p (Pu.move rfl) rfl ?_
  refine O.p (Pu.nilCheck rfl) rfl ?_
  refine O.q (Qt.ld rfl (Cel.var 0 rfl) (o := 0) (off := 1) rfl (Cut.one Tryz.isAgg3 rfl)) rfl ?_
  refine O.l (Lo.buildM (s := 1) encZ [r.d1] [(0, .int .i64 r.d1)] (by exact Tryz.runUnderlying34) (by exact Tryz.sizeOf3) (by exact Tryz.zeroValue3) rfl rfl rfl (by kernel_rfl) rfl rfl) rfl ?_
  rintro V6 _ rfl
  refine O.l (Lo.appendM (s := 1) 2 (by exact Tryz.underlying34) (by exact (info3).1) (by exact (info3).2.1) (by exact (info3).2.2.1) (by exact (info3).2.2.2) rfl rfl rfl rfl rfl (Src.row 0 rfl) encZ.one (by first | omega | decide | (simp; done)) (by first | omega | decide | (simp; done))) rfl ?_
  rintro V7 _ rfl
  refine O.p (Pu.assign rfl) rfl ?_
  refine O.nil ?_
  refine J.blk ?_
  refine J.region ?_
  refine O.p (Pu.add' rfl rfl (by first | omega | (simp only [List.length_append, List.length_cons, List.length_nil, List.length_set]; omega))) rfl ?_
  refine O.p (Pu.move rfl) rfl ?_
  refine O.nil ?_
  exact J.lp ⟨2, V7⟩ (show 2 ≤ 12 from (by omega)) (show 12 - 2 < 12 - 1 from (by first | omega | decide | (simp; done))) ⟨rfl, rfl, rfl, (congrArg (fun z => some (Value.int .i64 z)) (by first | rfl | omega : (1 + 1 : Int) = (2 : Int))), trivial⟩ [1, 2] (by decide) rfl
 ·
  show J _ _ [(2, str ([] : List UInt8)), (3, V), (6, .agg #[.pointer (some ⟨g1, 0, none⟩), .pointer (some ⟨g1, 1, none⟩), .pointer (some ⟨g1, 2, none⟩), .pointer (some ⟨g1, 3, none⟩), .pointer (some ⟨g1, 4, none⟩), .pointer (some ⟨g1, 5, none⟩), .pointer (some ⟨g1, 6, none⟩), .pointer (some ⟨g1, 7, none⟩), .pointer (some ⟨g1, 8, none⟩), .pointer (some ⟨g1, 9, none⟩), .pointer (some ⟨g1, 10, none⟩), .pointer (some ⟨g1, 11, none⟩)]), (7, .int .i64 2)] [var g1 [.int .i64 r.d0, .int .i64 r.d1, .int .i64 r.d2, .int .i64 r.d3, .int .i64 r.d4, .int .i64 r.d5, .int .i64 r.d6, .int .i64 r.d7, .int .i64 r.d8, .int .i64 r.d9, .int .i64 r.d10, .int .i64 r.d11] 23, row V 3 1 (([r.d0, r.d1, r.d2, r.d3, r.d4, r.d5, r.d6, r.d7, r.d8, r.d9, r.d10, r.d11].take 2).map encZ)]
  refine J.seq ?_
  refine J.region ?_
  refine O.p (Pu.lss rfl rfl) rfl ?_
  refine O.nil ?_
  refine J.seq ?_
  refine J.condT rfl rfl ?_
  refine J.skip ?_
  refine J.seq ?_
  refine J.block ?_
  refine J.seq ?_
  refine J.region ?_
  refine O.p (Pu.indexK1 (cs := [.pointer (some ⟨g1, 0, none⟩), .pointer (some ⟨g1, 1, none⟩), .pointer (some ⟨g1, 2, none⟩), .pointer (some ⟨g1, 3, none⟩), .pointer (some ⟨g1, 4, none⟩), .pointer (some ⟨g1, 5, none⟩), .pointer (some ⟨g1, 6, none⟩), .pointer (some ⟨g1, 7, none⟩), .pointer (some ⟨g1, 8, none⟩), .pointer (some ⟨g1, 9, none⟩), .pointer (some ⟨g1, 10, none⟩), .pointer (some ⟨g1, 11, none⟩)]) Tryz.runUnderlying53 Tryz.sizeOf52 Tryz.isAgg52 rfl rfl (by decide) (by decide) rfl) rfl ?_
  refine O.p (Pu.assign rfl) rfl ?_
  refine O.nil ?_
  refine J.region ?_
  refine O.p (Pu.move rfl) rfl ?_
  refine O.p (Pu.move rfl) rfl ?_
  refine O.p (Pu.nilCheck rfl) rfl ?_
  refine O.q (Qt.ld rfl (Cel.var 0 rfl) (o := 0) (off := 2) rfl (Cut.one Tryz.isAgg3 rfl)) rfl ?_
  refine O.l (Lo.buildM (s := 1) encZ [r.d2] [(0, .int .i64 r.d2)] (by exact Tryz.runUnderlying34) (by exact Tryz.sizeOf3) (by exact Tryz.zeroValue3) rfl rfl rfl (by kernel_rfl) rfl rfl) rfl ?_
  rintro V8 _ rfl
  refine O.l (Lo.appendM (s := 1) 2 (by exact Tryz.underlying34) (by exact (info3).1) (by exact (info3).2.1) (by exact (info3).2.2.1) (by exact (info3).2.2.2) rfl rfl rfl rfl rfl (Src.row 0 rfl) encZ.one (by first | omega | decide | (simp; done)) (by first | omega | decide | (simp; done))) rfl ?_
  rintro V9 _ rfl
  refine O.p (Pu.assign rfl) rfl ?_
  refine O.nil ?_
  refine J.blk ?_
  refine J.region ?_
  refine O.p (Pu.add' rfl rfl (by first | omega | (simp only [List.length_append, List.length_cons, List.length_nil, List.length_set]; omega))) rfl ?_
  refine O.p (Pu.move rfl) rfl ?_
  refine O.nil ?_
  exact J.lp ⟨3, V9⟩ (show 3 ≤ 12 from (by omega)) (show 12 - 3 < 12 - 2 from (by first | omega | decide | (simp; done))) ⟨rfl, rfl, rfl, (congrArg (fun z => some (Value.int .i64 z)) (by first | rfl | omega : (2 + 1 : Int) = (3 : Int))), trivial⟩ [1, 2] (by decide) rfl
 ·
  show J _ _ [(2, str ([] : List UInt8)), (3, V), (6, .agg #[.pointer (some ⟨g1, 0, none⟩), .pointer (some ⟨g1, 1, none⟩), .pointer (some ⟨g1, 2, none⟩), .pointer (some ⟨g1, 3, none⟩), .pointer (some ⟨g1, 4, none⟩), .pointer (some ⟨g1, 5, none⟩), .pointer (some ⟨g1, 6, none⟩), .pointer (some ⟨g1, 7, none⟩), .pointer (some ⟨g1, 8, none⟩), .pointer (some ⟨g1, 9, none⟩), .pointer (some ⟨g1, 10, none⟩), .pointer (some ⟨g1, 11, none⟩)]), (7, .int .i64 3)] [var g1 [.int .i64 r.d0, .int .i64 r.d1, .int .i64 r.d2, .int .i64 r.d3, .int .i64 r.d4, .int .i64 r.d5, .int .i64 r.d6, .int .i64 r.d7, .int .i64 r.d8, .int .i64 r.d9, .int .i64 r.d10, .int .i64 r.d11] 23, row V 3 1 (([r.d0, r.d1, r.d2, r.d3, r.d4, r.d5, r.d6, r.d7, r.d8, r.d9, r.d10, r.d11].take 3).map encZ)]
  refine J.seq ?_
  refine J.region ?_
  refine O.p (Pu.lss rfl rfl) rfl ?_
  refine O.nil ?_
  refine J.seq ?_
  refine J.condT rfl rfl ?_
  refine J.skip ?_
  refine J.seq ?_
  refine J.block ?_
  refine J.seq ?_
  refine J.region ?_
  refine O.p (Pu.indexK1 (cs := [.pointer (some ⟨g1, 0, none⟩), .pointer (some ⟨g1, 1, none⟩), .pointer (some ⟨g1, 2, none⟩), .pointer (some ⟨g1, 3, none⟩), .pointer (some ⟨g1, 4, none⟩), .pointer (some ⟨g1, 5, none⟩), .pointer (some ⟨g1, 6, none⟩), .pointer (some ⟨g1, 7, none⟩), .pointer (some ⟨g1, 8, none⟩), .pointer (some ⟨g1, 9, none⟩), .pointer (some ⟨g1, 10, none⟩), .pointer (some ⟨g1, 11, none⟩)]) Tryz.runUnderlying53 Tryz.sizeOf52 Tryz.isAgg52 rfl rfl (by decide) (by decide) rfl) rfl ?_
  refine O.p (Pu.assign rfl) rfl ?_
  refine O.nil ?_
  refine J.region ?_
  refine O.p (Pu.move rfl) rfl ?_
  refine O.p (Pu.move rfl) rfl ?_
  refine O.p (Pu.nilCheck rfl) rfl ?_
  refine O.q (Qt.ld rfl (Cel.var 0 rfl) (o := 0) (off := 3) rfl (Cut.one Tryz.isAgg3 rfl)) rfl ?_
  refine O.l (Lo.buildM (s := 1) encZ [r.d3] [(0, .int .i64 r.d3)] (by exact Tryz.runUnderlying34) (by exact Tryz.sizeOf3) (by exact Tryz.zeroValue3) rfl rfl rfl (by kernel_rfl) rfl rfl) rfl ?_
  rintro V10 _ rfl
  refine O.l (Lo.appendM (s := 1) 2 (by exact Tryz.underlying34) (by exact (info3).1) (by exact (info3).2.1) (by exact (info3).2.2.1) (by exact (info3).2.2.2) rfl rfl rfl rfl rfl (Src.row 0 rfl) encZ.one (by first | omega | decide | (simp; done)) (by first | omega | decide | (simp; done))) rfl ?_
  rintro V11 _ rfl
  refine O.p (Pu.assign rfl) rfl ?_
  refine O.nil ?_
  refine J.blk ?_
  refine J.region ?_
  refine O.p (Pu.add' rfl rfl (by first | omega | (simp only [List.length_append, List.length_cons, List.length_nil, List.length_set]; omega))) rfl ?_
  refine O.p (Pu.move rfl) rfl ?_
  refine O.nil ?_
  exact J.lp ⟨4, V11⟩ (show 4 ≤ 12 from (by omega)) (show 12 - 4 < 12 - 3 from (by first | omega | decide | (simp; done))) ⟨rfl, rfl, rfl, (congrArg (fun z => some (Value.int .i64 z)) (by first | rfl | omega : (3 + 1 : Int) = (4 : Int))), trivial⟩ [1, 2] (by decide) rfl
 ·
  show J _ _ [(2, str ([] : List UInt8)), (3, V), (6, .agg #[.pointer (some ⟨g1, 0, none⟩), .pointer (some ⟨g1, 1, none⟩), .pointer (some ⟨g1, 2, none⟩), .pointer (some ⟨g1, 3, none⟩), .pointer (some ⟨g1, 4, none⟩), .pointer (some ⟨g1, 5, none⟩), .pointer (some ⟨g1, 6, none⟩), .pointer (some ⟨g1, 7, none⟩), .pointer (some ⟨g1, 8, none⟩), .pointer (some ⟨g1, 9, none⟩), .pointer (some ⟨g1, 10, none⟩), .pointer (some ⟨g1, 11, none⟩)]), (7, .int .i64 4)] [var g1 [.int .i64 r.d0, .int .i64 r.d1, .int .i64 r.d2, .int .i64 r.d3, .int .i64 r.d4, .int .i64 r.d5, .int .i64 r.d6, .int .i64 r.d7, .int .i64 r.d8, .int .i64 r.d9, .int .i64 r.d10, .int .i64 r.d11] 23, row V 3 1 (([r.d0, r.d1, r.d2, r.d3, r.d4, r.d5, r.d6, r.d7, r.d8, r.d9, r.d10, r.d11].take 4).map encZ)]
  refine J.seq ?_
  refine J.region ?_
  refine O.p (Pu.lss rfl rfl) rfl ?_
  refine O.nil ?_
  refine J.seq ?_
  refine J.condT rfl rfl ?_
  refine J.skip ?_
  refine J.seq ?_
  refine J.block ?_
  refine J.seq ?_
  refine J.region ?_
  refine O.p (Pu.indexK1 (cs := [.pointer (some ⟨g1, 0, none⟩), .pointer (some ⟨g1, 1, none⟩), .pointer (some ⟨g1, 2, none⟩), .pointer (some ⟨g1, 3, none⟩), .pointer (some ⟨g1, 4, none⟩), .pointer (some ⟨g1, 5, none⟩), .pointer (some ⟨g1, 6, none⟩), .pointer (some ⟨g1, 7, none⟩), .pointer (some ⟨g1, 8, none⟩), .pointer (some ⟨g1, 9, none⟩), .pointer (some ⟨g1, 10, none⟩), .pointer (some ⟨g1, 11, none⟩)]) Tryz.runUnderlying53 Tryz.sizeOf52 Tryz.isAgg52 rfl rfl (by decide) (by decide) rfl) rfl ?_
  refine O.p (Pu.assign rfl) rfl ?_
  refine O.nil ?_
  refine J.region ?_
  refine O.p (Pu.move rfl) rfl ?_
  refine O.p (Pu.move rfl) rfl ?_
  refine O.p (Pu.nilCheck rfl) rfl ?_
  refine O.q (Qt.ld rfl (Cel.var 0 rfl) (o := 0) (off := 4) rfl (Cut.one Tryz.isAgg3 rfl)) rfl ?_
  refine O.l (Lo.buildM (s := 1) encZ [r.d4] [(0, .int .i64 r.d4)] (by exact Tryz.runUnderlying34) (by exact Tryz.sizeOf3) (by exact Tryz.zeroValue3) rfl rfl rfl (by kernel_rfl) rfl rfl) rfl ?_
  rintro V12 _ rfl
  refine O.l (Lo.appendM (s := 1) 2 (by exact Tryz.underlying34) (by exact (info3).1) (by exact (info3).2.1) (by exact (info3).2.2.1) (by exact (info3).2.2.2) rfl rfl rfl rfl rfl (Src.row 0 rfl) encZ.one (by first | omega | decide | (simp; done)) (by first | omega | decide | (simp; done))) rfl ?_
  rintro V13 _ rfl
  refine O.p (Pu.assign rfl) rfl ?_
  refine O.nil ?_
  refine J.blk ?_
  refine J.region ?_
  refine O.p (Pu.add' rfl rfl (by first | omega | (simp only [List.length_append, List.length_cons, List.length_nil, List.length_set]; omega))) rfl ?_
  refine O.p (Pu.move rfl) rfl ?_
  refine O.nil ?_
  exact J.lp ⟨5, V13⟩ (show 5 ≤ 12 from (by omega)) (show 12 - 5 < 12 - 4 from (by first | omega | decide | (simp; done))) ⟨rfl, rfl, rfl, (congrArg (fun z => some (Value.int .i64 z)) (by first | rfl | omega : (4 + 1 : Int) = (5 : Int))), trivial⟩ [1, 2] (by decide) rfl
 ·
  show J _ _ [(2, str ([] : List UInt8)), (3, V), (6, .agg #[.pointer (some ⟨g1, 0, none⟩), .pointer (some ⟨g1, 1, none⟩), .pointer (some ⟨g1, 2, none⟩), .pointer (some ⟨g1, 3, none⟩), .pointer (some ⟨g1, 4, none⟩), .pointer (some ⟨g1, 5, none⟩), .pointer (some ⟨g1, 6, none⟩), .pointer (some ⟨g1, 7, none⟩), .pointer (some ⟨g1, 8, none⟩), .pointer (some ⟨g1, 9, none⟩), .pointer (some ⟨g1, 10, none⟩), .pointer (some ⟨g1, 11, none⟩)]), (7, .int .i64 5)] [var g1 [.int .i64 r.d0, .int .i64 r.d1, .int .i64 r.d2, .int .i64 r.d3, .int .i64 r.d4, .int .i64 r.d5, .int .i64 r.d6, .int .i64 r.d7, .int .i64 r.d8, .int .i64 r.d9, .int .i64 r.d10, .int .i64 r.d11] 23, row V 3 1 (([r.d0, r.d1, r.d2, r.d3, r.d4, r.d5, r.d6, r.d7, r.d8, r.d9, r.d10, r.d11].take 5).map encZ)]
  refine J.seq ?_
  refine J.region ?_
  refine O.p (Pu.lss rfl rfl) rfl ?_
  refine O.nil ?_
  refine J.seq ?_
  refine J.condT rfl rfl ?_
  refine J.skip ?_
  refine J.seq ?_
  refine J.block ?_
  refine J.seq ?_
  refine J.region ?_
  refine O.p (Pu.indexK1 (cs := [.pointer (some ⟨g1, 0, none⟩), .pointer (some ⟨g1, 1, none⟩), .pointer (some ⟨g1, 2, none⟩), .pointer (some ⟨g1, 3, none⟩), .pointer (some ⟨g1, 4, none⟩), .pointer (some ⟨g1, 5, none⟩), .pointer (some ⟨g1, 6, none⟩), .pointer (some ⟨g1, 7, none⟩), .pointer (some ⟨g1, 8, none⟩), .pointer (some ⟨g1, 9, none⟩), .pointer (some ⟨g1, 10, none⟩), .pointer (some ⟨g1, 11, none⟩)]) Tryz.runUnderlying53 Tryz.sizeOf52 Tryz.isAgg52 rfl rfl (by decide) (by decide) rfl) rfl ?_
  refine O.p (Pu.assign rfl) rfl ?_
  refine O.nil ?_
  refine J.region ?_
  refine O.p (Pu.move rfl) rfl ?_
  refine O.p (Pu.move rfl) rfl ?_
  refine O.p (Pu.nilCheck rfl) rfl ?_
  refine O.q (Qt.ld rfl (Cel.var 0 rfl) (o := 0) (off := 5) rfl (Cut.one Tryz.isAgg3 rfl)) rfl ?_
  refine O.l (Lo.buildM (s := 1) encZ [r.d5] [(0, .int .i64 r.d5)] (by exact Tryz.runUnderlying34) (by exact Tryz.sizeOf3) (by exact Tryz.zeroValue3) rfl rfl rfl (by kernel_rfl) rfl rfl) rfl ?_
  rintro V14 _ rfl
  refine O.l (Lo.appendM (s := 1) 2 (by exact Tryz.underlying34) (by exact (info3).1) (by exact (info3).2.1) (by exact (info3).2.2.1) (by exact (info3).2.2.2) rfl rfl rfl rfl rfl (Src.row 0 rfl) encZ.one (by first | omega | decide | (simp; done)) (by first | omega | decide | (simp; done))) rfl ?_
  rintro V15 _ rfl
  refine O.p (Pu.assign rfl) rfl ?_
  refine O.nil ?_
  refine J.blk ?_
  refine J.region ?_
  refine O.p (Pu.add' rfl rfl (by first | omega | (simp only [List.length_append, List.length_cons, List.length_nil, List.length_set]; omega))) rfl ?_
  refine O.p (Pu.move rfl) rfl ?_
  refine O.nil ?_
  exact J.lp ⟨6, V15⟩ (show 6 ≤ 12 from (by omega)) (show 12 - 6 < 12 - 5 from (by first | omega | decide | (simp; done))) ⟨rfl, rfl, rfl, (congrArg (fun z => some (Value.int .i64 z)) (by first | rfl | omega : (5 + 1 : Int) = (6 : Int))), trivial⟩ [1, 2] (by decide) rfl
 ·
  show J _ _ [(2, str ([] : List UInt8)), (3, V), (6, .agg #[.pointer (some ⟨g1, 0, none⟩), .pointer (some ⟨g1, 1, none⟩), .pointer (some ⟨g1, 2, none⟩), .pointer (some ⟨g1, 3, none⟩), .pointer (some ⟨g1, 4, none⟩), .pointer (some ⟨g1, 5, none⟩), .pointer (some ⟨g1, 6, none⟩), .pointer (some ⟨g1, 7, none⟩), .pointer (some ⟨g1, 8, none⟩), .pointer (some ⟨g1, 9, none⟩), .pointer (some ⟨g1, 10, none⟩), .pointer (some ⟨g1, 11, none⟩)]), (7, .int .i64 6)] [var g1 [.int .i64 r.d0, .int .i64 r.d1, .int .i64 r.d2, .int .i64 r.d3, .int .i64 r.d4, .int .i64 r.d5, .int .i64 r.d6, .int .i64 r.d7, .int .i64 r.d8, .int .i64 r.d9, .int .i64 r.d10, .int .i64 r.d11] 23, row V 3 1 (([r.d0, r.d1, r.d2, r.d3, r.d4, r.d5, r.d6, r.d7, r.d8, r.d9, r.d10, r.d11].take 6).map encZ)]
  refine J.seq ?_
  refine J.region ?_
  refine O.p (Pu.lss rfl rfl) rfl ?_
  refine O.nil ?_
  refine J.seq ?_
  refine J.condT rfl rfl ?_
  refine J.skip ?_
  refine J.seq ?_
  refine J.block ?_
  refine J.seq ?_
  refine J.region ?_
  refine O.p (Pu.indexK1 (cs := [.pointer (some ⟨g1, 0, none⟩), .pointer (some ⟨g1, 1, none⟩), .pointer (some ⟨g1, 2, none⟩), .pointer (some ⟨g1, 3, none⟩), .pointer (some ⟨g1, 4, none⟩), .pointer (some ⟨g1, 5, none⟩), .pointer (some ⟨g1, 6, none⟩), .pointer (some ⟨g1, 7, none⟩), .pointer (some ⟨g1, 8, none⟩), .pointer (some ⟨g1, 9, none⟩), .pointer (some ⟨g1, 10, none⟩), .pointer (some ⟨g1, 11, none⟩)]) Tryz.runUnderlying53 Tryz.sizeOf52 Tryz.isAgg52 rfl rfl (by decide) (by decide) rfl) rfl ?_
  refine O.p (Pu.assign rfl) rfl ?_
  refine O.nil ?_
  refine J.region ?_
  refine O.p (Pu.move rfl) rfl ?_
  refine O.p (Pu.move rfl) rfl ?_
  refine O.p (Pu.nilCheck rfl) rfl ?_
  refine O.q (Qt.ld rfl (Cel.var 0 rfl) (o := 0) (off := 6) rfl (Cut.one Tryz.isAgg3 rfl)) rfl ?_
  refine O.l (Lo.buildM (s := 1) encZ [r.d6] [(0, .int .i64 r.d6)] (by exact Tryz.runUnderlying34) (by exact Tryz.sizeOf3) (by exact Tryz.zeroValue3) rfl rfl rfl (by kernel_rfl) rfl rfl) rfl ?_
  rintro V16 _ rfl
  refine O.l (Lo.appendM (s := 1) 2 (by exact Tryz.underlying34) (by exact (info3).1) (by exact (info3).2.1) (by exact (info3).2.2.1) (by exact (info3).2.2.2) rfl rfl rfl rfl rfl (Src.row 0 rfl) encZ.one (by first | omega | decide | (simp; done)) (by first | omega | decide | (simp; done))) rfl ?_
  rintro V17 _ rfl
  refine O.p (Pu.assign rfl) rfl ?_
  refine O.nil ?_
  refine J.blk ?_
  refine J.region ?_
  refine O.p (Pu.add' rfl rfl (by first | omega | (simp only [List.length_append, List.length_cons, List.length_nil, List.length_set]; omega))) rfl ?_
  refine O.p (Pu.move rfl) rfl ?_
  refine O.nil ?_
  exact J.lp ⟨7, V17⟩ (show 7 ≤ 12 from (by omega)) (show 12 - 7 < 12 - 6 from (by first | omega | decide | (simp; done))) ⟨rfl, rfl, rfl, (congrArg (fun z => some (Value.int .i64 z)) (by first | rfl | omega : (6 + 1 : Int) = (7 : Int))), trivial⟩ [1, 2] (by decide) rfl
 ·
  show J _ _ [(2, str ([] : List UInt8)), (3, V), (6, .agg #[.pointer (some ⟨g1, 0, none⟩), .pointer (some ⟨g1, 1, none⟩), .pointer (some ⟨g1, 2, none⟩), .pointer (some ⟨g1, 3, none⟩), .pointer (some ⟨g1, 4, none⟩), .pointer (some ⟨g1, 5, none⟩), .pointer (some ⟨g1, 6, none⟩), .pointer (some ⟨g1, 7, none⟩), .pointer (some ⟨g1, 8, none⟩), .pointer (some ⟨g1, 9, none⟩), .pointer (some ⟨g1, 10, none⟩), .pointer (some ⟨g1, 11, none⟩)]), (7, .int .i64 7)] [var g1 [.int .i64 r.d0, .int .i64 r.d1, .int .i64 r.d2, .int .i64 r.d3, .int .i64 r.d4, .int .i64 r.d5, .int .i64 r.d6, .int .i64 r.d7, .int .i64 r.d8, .int .i64 r.d9, .int .i64 r.d10, .int .i64 r.d11] 23, row V 3 1 (([r.d0, r.d1, r.d2, r.d3, r.d4, r.d5, r.d6, r.d7, r.d8, r.d9, r.d10, r.d11].take 7).map encZ)]
  refine J.seq ?_
  refine J.region ?_
  refine O.p (Pu.lss rfl rfl) rfl ?_
  refine O.nil ?_
  refine J.seq ?_
  refine J.condT rfl rfl ?_
  refine J.skip ?_
  refine J.seq ?_
  refine J.block ?_
  refine J.seq ?_
  refine J.region ?_
  refine O.p (Pu.indexK1 (cs := [.pointer (some ⟨g1, 0, none⟩), .pointer (some ⟨g1, 1, none⟩), .pointer (some ⟨g1, 2, none⟩), .pointer (some ⟨g1, 3, none⟩), .pointer (some ⟨g1, 4, none⟩), .pointer (some ⟨g1, 5, none⟩), .pointer (some ⟨g1, 6, none⟩), .pointer (some ⟨g1, 7, none⟩), .pointer (some ⟨g1, 8, none⟩), .pointer (some ⟨g1, 9, none⟩), .pointer (some ⟨g1, 10, none⟩), .pointer (some ⟨g1, 11, none⟩)]) Tryz.runUnderlying53 Tryz.sizeOf52 Tryz.isAgg52 rfl rfl (by decide) (by decide) rfl) rfl ?_
  refine O.p (Pu.assign rfl) rfl ?_
  refine O.nil ?_
  refine J.region ?_
  refine O.p (Pu.move rfl) rfl ?_
  refine O.p (Pu.move rfl) rfl ?_
  refine O.p (Pu.nilCheck rfl) rfl ?_
  refine O.q (Qt.ld rfl (Cel.var 0 rfl) (o := 0) (off := 7) rfl (Cut.one Tryz.isAgg3 rfl)) rfl ?_
  refine O.l (Lo.buildM (s := 1) encZ [r.d7] [(0, .int .i64 r.d7)] (by exact Tryz.runUnderlying34) (by exact Tryz.sizeOf3) (by exact Tryz.zeroValue3) rfl rfl rfl (by kernel_rfl) rfl rfl) rfl ?_
  rintro V18 _ rfl
  refine O.l (Lo.appendM (s := 1) 2 (by exact Tryz.underlying34) (by exact (info3).1) (by exact (info3).2.1) (by exact (info3).2.2.1) (by exact (info3).2.2.2) rfl rfl rfl rfl rfl (Src.row 0 rfl) encZ.one (by first | omega | decide | (simp; done)) (by first | omega | decide | (simp; done))) rfl ?_
  rintro V19 _ rfl
  refine O.p (Pu.assign rfl) rfl ?_
  refine O.nil ?_
  refine J.blk ?_
  refine J.region ?_
  refine O.p (Pu.add' rfl rfl (by first | omega | (simp only [List.length_append, List.length_cons, List.length_nil, List.length_set]; omega))) rfl ?_
  refine O.p (Pu.move rfl) rfl ?_
  refine O.nil ?_
  exact J.lp ⟨8, V19⟩ (show 8 ≤ 12 from (by omega)) (show 12 - 8 < 12 - 7 from (by first | omega | decide | (simp; done))) ⟨rfl, rfl, rfl, (congrArg (fun z => some (Value.int .i64 z)) (by first | rfl | omega : (7 + 1 : Int) = (8 : Int))), trivial⟩ [1, 2] (by decide) rfl
 ·
  show J _ _ [(2, str ([] : List UInt8)), (3, V), (6, .agg #[.pointer (some ⟨g1, 0, none⟩), .pointer (some ⟨g1, 1, none⟩), .pointer (some ⟨g1, 2, none⟩), .pointer (some ⟨g1, 3, none⟩), .pointer (some ⟨g1, 4, none⟩), .pointer (some ⟨g1, 5, none⟩), .pointer (some ⟨g1, 6, none⟩), .pointer (some ⟨g1, 7, none⟩), .pointer (some ⟨g1, 8, none⟩), .pointer (some ⟨g1, 9, none⟩), .pointer (some ⟨g1, 10, none⟩), .pointer (some ⟨g1, 11, none⟩)]), (7, .int .i64 8)] [var g1 [.int .i64 r.d0, .int .i64 r.d1, .int .i64 r.d2, .int .i64 r.d3, .int .i64 r.d4, .int .i64 r.d5, .int .i64 r.d6, .int .i64 r.d7, .int .i64 r.d8, .int .i64 r.d9, .int .i64 r.d10, .int .i64 r.d11] 23, row V 3 1 (([r.d0, r.d1, r.d2, r.d3, r.d4, r.d5, r.d6, r.d7, r.d8, r.d9, r.d10, r.d11].take 8).map encZ)]
  refine J.seq ?_
  refine J.region ?_
  refine O.p (Pu.lss rfl rfl) rfl ?_
  refine O.nil ?_
  refine J.seq ?_
  refine J.condT rfl rfl ?_
  refine J.skip ?_
  refine J.seq ?_
  refine J.block ?_
  refine J.seq ?_
  refine J.region ?_
  refine O.p (Pu.indexK1 (cs := [.pointer (some ⟨g1, 0, none⟩), .pointer (some ⟨g1, 1, none⟩), .pointer (some ⟨g1, 2, none⟩), .pointer (some ⟨g1, 3, none⟩), .pointer (some ⟨g1, 4, none⟩), .pointer (some ⟨g1, 5, none⟩), .pointer (some ⟨g1, 6, none⟩), .pointer (some ⟨g1, 7, none⟩), .pointer (some ⟨g1, 8, none⟩), .pointer (some ⟨g1, 9, none⟩), .pointer (some ⟨g1, 10, none⟩), .pointer (some ⟨g1, 11, none⟩)]) Tryz.runUnderlying53 Tryz.sizeOf52 Tryz.isAgg52 rfl rfl (by decide) (by decide) rfl) rfl ?_
  refine O.p (Pu.assign rfl) rfl ?_
  refine O.nil ?_
  refine J.region ?_
  refine O.p (Pu.move rfl) rfl ?_
  refine O.p (Pu.move rfl) rfl ?_
  refine O.p (Pu.nilCheck rfl) rfl ?_
  refine O.q (Qt.ld rfl (Cel.var 0 rfl) (o := 0) (off := 8) rfl (Cut.one Tryz.isAgg3 rfl)) rfl ?_
  refine O.l (Lo.buildM (s := 1) encZ [r.d8] [(0, .int .i64 r.d8)] (by exact Tryz.runUnderlying34) (by exact Tryz.sizeOf3) (by exact Tryz.zeroValue3) rfl rfl rfl (by kernel_rfl) rfl rfl) rfl ?_
  rintro V20 _ rfl
  refine O.l (Lo.appendM (s := 1) 2 (by exact Tryz.underlying34) (by exact (info3).1) (by exact (info3).2.1) (by exact (info3).2.2.1) (by exact (info3).2.2.2) rfl rfl rfl rfl rfl (Src.row 0 rfl) encZ.one (by first | omega | decide | (simp; done)) (by first | omega | decide | (simp; done))) rfl ?_
  rintro V21 _ rfl
  refine O.p (Pu.assign rfl) rfl ?_
  refine O.nil ?_
  refine J.blk ?_
  refine J.region ?_
  refine O.p (Pu.add' rfl rfl (by first | omega | (simp only [List.length_append, List.length_cons, List.length_nil, List.length_set]; omega))) rfl ?_
  refine O.p (Pu.move rfl) rfl ?_
  refine O.nil ?_
  exact J.lp ⟨9, V21⟩ (show 9 ≤ 12 from (by omega)) (show 12 - 9 < 12 - 8 from (by first | omega | decide | (simp; done))) ⟨rfl, rfl, rfl, (congrArg (fun z => some (Value.int .i64 z)) (by first | rfl | omega : (8 + 1 : Int) = (9 : Int))), trivial⟩ [1, 2] (by decide) rfl
 ·
  show J _ _ [(2, str ([] : List UInt8)), (3, V), (6, .agg #[.pointer (some ⟨g1, 0, none⟩), .pointer (some ⟨g1, 1, none⟩), .pointer (some ⟨g1, 2, none⟩), .pointer (some ⟨g1, 3, none⟩), .pointer (some ⟨g1, 4, none⟩), .pointer (some ⟨g1, 5, none⟩), .pointer (some ⟨g1, 6, none⟩), .pointer (some ⟨g1, 7, none⟩), .pointer (some ⟨g1, 8, none⟩), .pointer (some ⟨g1, 9, none⟩), .pointer (some ⟨g1, 10, none⟩), .pointer (some ⟨g1, 11, none⟩)]), (7, .int .i64 9)] [var g1 [.int .i64 r.d0, .int .i64 r.d1, .int .i64 r.d2, .int .i64 r.d3, .int .i64 r.d4, .int .i64 r.d5, .int .i64 r.d6, .int .i64 r.d7, .int .i64 r.d8, .int .i64 r.d9, .int .i64 r.d10, .int .i64 r.d11] 23, row V 3 1 (([r.d0, r.d1, r.d2, r.d3, r.d4, r.d5, r.d6, r.d7, r.d8, r.d9, r.d10, r.d11].take 9).map encZ)]
  refine J.seq ?_
  refine J.region ?_
  refine O.p (Pu.lss rfl rfl) rfl ?_
  refine O.nil ?_
  refine J.seq ?_
  refine J.condT rfl rfl ?_
  refine J.skip ?_
  refine J.seq ?_
  refine J.block ?_
  refine J.seq ?_
  refine J.region ?_
  refine O.p (Pu.indexK1 (cs := [.pointer (some ⟨g1, 0, none⟩), .pointer (some ⟨g1, 1, none⟩), .pointer (some ⟨g1, 2, none⟩), .pointer (some ⟨g1, 3, none⟩), .pointer (some ⟨g1, 4, none⟩), .pointer (some ⟨g1, 5, none⟩), .pointer (some ⟨g1, 6, none⟩), .pointer (some ⟨g1, 7, none⟩), .pointer (some ⟨g1, 8, none⟩), .pointer (some ⟨g1, 9, none⟩), .pointer (some ⟨g1, 10, none⟩), .pointer (some ⟨g1, 11, none⟩)]) Tryz.runUnderlying53 Tryz.sizeOf52 Tryz.isAgg52 rfl rfl (by decide) (by decide) rfl) rfl ?_
  refine O.p (Pu.assign rfl) rfl ?_
  refine O.nil ?_
  refine J.region ?_
  refine O.p (Pu.move rfl) rfl ?_
  refine O.p (Pu.move rfl) rfl ?_
  refine O.p (Pu.nilCheck rfl) rfl ?_
  refine O.q (Qt.ld rfl (Cel.var 0 rfl) (o := 0) (off := 9) rfl (Cut.one Tryz.isAgg3 rfl)) rfl ?_
  refine O.l (Lo.buildM (s := 1) encZ [r.d9] [(0, .int .i64 r.d9)] (by exact Tryz.runUnderlying34) (by exact Tryz.sizeOf3) (by exact Tryz.zeroValue3) rfl rfl rfl (by kernel_rfl) rfl rfl) rfl ?_
  rintro V22 _ rfl
  refine O.l (Lo.appendM (s := 1) 2 (by exact Tryz.underlying34) (by exact (info3).1) (by exact (info3).2.1) (by exact (info3).2.2.1) (by exact (info3).2.2.2) rfl rfl rfl rfl rfl (Src.row 0 rfl) encZ.one (by first | omega | decide | (simp; done)) (by first | omega | decide | (simp; done))) rfl ?_
  rintro V23 _ rfl
  refine O.p (Pu.assign rfl) rfl ?_
  refine O.nil ?_
  refine J.blk ?_
  refine J.region ?_
  refine O.p (Pu.add' rfl rfl (by first | omega | (simp only [List.length_append, List.length_cons, List.length_nil, List.length_set]; omega))) rfl ?_
  refine O.p (Pu.move rfl) rfl ?_
  refine O.nil ?_
  exact J.lp ⟨10, V23⟩ (show 10 ≤ 12 from (by omega)) (show 12 - 10 < 12 - 9 from (by first | omega | decide | (simp; done))) ⟨rfl, rfl, rfl, (congrArg (fun z => some (Value.int .i64 z)) (by first | rfl | omega : (9 + 1 : Int) = (10 : Int))), trivial⟩ [1, 2] (by decide) rfl
 ·
  show J _ _ [(2, str ([] : List UInt8)), (3, V), (6, .agg #[.pointer (some ⟨g1, 0, none⟩), .pointer (some ⟨g1, 1, none⟩), .pointer (some ⟨g1, 2, none⟩), .pointer (some ⟨g1, 3, none⟩), .pointer (some ⟨g1, 4, none⟩), .pointer (some ⟨g1, 5, none⟩), .pointer (some ⟨g1, 6, none⟩), .pointer (some ⟨g1, 7, none⟩), .pointer (some ⟨g1, 8, none⟩), .pointer (some ⟨g1, 9, none⟩), .pointer (some ⟨g1, 10, none⟩), .pointer (some ⟨g1, 11, none⟩)]), (7, .int .i64 10)] [var g1 [.int .i64 r.d0, .int .i64 r.d1, .int .i64 r.d2, .int .i64 r.d3, .int .i64 r.d4, .int .i64 r.d5, .int .i64 r.d6, .int .i64 r.d7, .int .i64 r.d8, .int .i64 r.d9, .int .i64 r.d10, .int .i64 r.d11] 23, row V 3 1 (([r.d0, r.d1, r.d2, r.d3, r.d4, r.d5, r.d6, r.d7, r.d8, r.d9, r.d10, r.d11].take 10).map encZ)]
  refine J.seq ?_
  refine J.region ?_
  refine O.p (Pu.lss rfl rfl) rfl ?_
  refine O.nil ?_
  refine J.seq ?_
  refine J.condT rfl rfl ?_
  refine J.skip ?_
  refine J.seq ?_
  refine J.block ?_
  refine J.seq ?_
  refine J.region ?_
  refine O.p (Pu.indexK1 (cs := [.pointer (some ⟨g1, 0, none⟩), .pointer (some ⟨g1, 1, none⟩), .pointer (some ⟨g1, 2, none⟩), .pointer (some ⟨g1, 3, none⟩), .pointer (some ⟨g1, 4, none⟩), .pointer (some ⟨g1, 5, none⟩), .pointer (some ⟨g1, 6, none⟩), .pointer (some ⟨g1, 7, none⟩), .pointer (some ⟨g1, 8, none⟩), .pointer (some ⟨g1, 9, none⟩), .pointer (some ⟨g1, 10, none⟩), .pointer (some ⟨g1, 11, none⟩)]) Tryz.runUnderlying53 Tryz.sizeOf52 Tryz.isAgg52 rfl rfl (by decide) (by decide) rfl) rfl ?_
  refine O.p (Pu.assign rfl) rfl ?_
  refine O.nil ?_
  refine J.region ?_
  refine O.p (Pu.move rfl) rfl ?_
  refine O.p (Pu.move rfl) rfl ?_
  refine O.p (Pu.nilCheck rfl) rfl ?_
  refine O.q (Qt.ld rfl (Cel.var 0 rfl) (o := 0) (off := 10) rfl (Cut.one Tryz.isAgg3 rfl)) rfl ?_
  refine O.l (Lo.buildM (s := 1) encZ [r.d10] [(0, .int .i64 r.d10)] (by exact Tryz.runUnderlying34) (by exact Tryz.sizeOf3) (by exact Tryz.zeroValue3) rfl rfl rfl (by kernel_rfl) rfl rfl) rfl ?_
  rintro V24 _ rfl
  refine O.l (Lo.appendM (s := 1) 2 (by exact Tryz.underlying34) (by exact (info3).1) (by exact (info3).2.1) (by exact (info3).2.2.1) (by exact (info3).2.2.2) rfl rfl rfl rfl rfl (Src.row 0 rfl) encZ.one (by first | omega | decide | (simp; done)) (by first | omega | decide | (simp; done))) rfl ?_
  rintro V25 _ rfl
  refine O.p (Pu.assign rfl) rfl ?_
  refine O.nil ?_
  refine J.blk ?_
  refine J.region ?_
  refine O.p (Pu.add' rfl rfl (by first | omega | (simp only [List.length_append, List.length_cons, List.length_nil, List.length_set]; omega))) rfl ?_
  refine O.p (Pu.move rfl) rfl ?_
  refine O.nil ?_
  exact J.lp ⟨11, V25⟩ (show 11 ≤ 12 from (by omega)) (show 12 - 11 < 12 - 10 from (by first | omega | decide | (simp; done))) ⟨rfl, rfl, rfl, (congrArg (fun z => some (Value.int .i64 z)) (by first | rfl | omega : (10 + 1 : Int) = (11 : Int))), trivial⟩ [1, 2] (by decide) rfl
 ·
  show J _ _ [(2, str ([] : List UInt8)), (3, V), (6, .agg #[.pointer (some ⟨g1, 0, none⟩), .pointer (some ⟨g1, 1, none⟩), .pointer (some ⟨g1, 2, none⟩), .pointer (some ⟨g1, 3, none⟩), .pointer (some ⟨g1, 4, none⟩), .pointer (some ⟨g1, 5, none⟩), .pointer (some ⟨g1, 6, none⟩), .pointer (some ⟨g1, 7, none⟩), .pointer (some ⟨g1, 8, none⟩), .pointer (some ⟨g1, 9, none⟩), .pointer (some ⟨g1, 10, none⟩), .pointer (some ⟨g1, 11, none⟩)]), (7, .int .i64 11)] [var g1 [.int .i64 r.d0, .int .i64 r.d1, .int .i64 r.d2, .int .i64 r.d3, .int .i64 r.d4, .int .i64 r.d5, .int .i64 r.d6, .int .i64 r.d7, .int .i64 r.d8, .int .i64 r.d9, .int .i64 r.d10, .int .i64 r.d11] 23, row V 3 1 (([r.d0, r.d1, r.d2, r.d3, r.d4, r.d5, r.d6, r.d7, r.d8, r.d9, r.d10, r.d11].take 11).map encZ)]
  refine J.seq ?_
  refine J.region ?_
  refine O.p (Pu.lss rfl rfl) rfl ?_
  refine O.nil ?_
  refine J.seq ?_
  refine J.condT rfl rfl ?_
  refine J.skip ?_
  refine J.seq ?_
  refine J.block ?_
  refine J.seq ?_
  refine J.region ?_
  refine O.p (Pu.indexK1 (cs := [.pointer (some ⟨g1, 0, none⟩), .pointer (some ⟨g1, 1, none⟩), .pointer (some ⟨g1, 2, none⟩), .pointer (some ⟨g1, 3, none⟩), .pointer (some ⟨g1, 4, none⟩), .pointer (some ⟨g1, 5, none⟩), .pointer (some ⟨g1, 6, none⟩), .pointer (some ⟨g1, 7, none⟩), .pointer (some ⟨g1, 8, none⟩), .pointer (some ⟨g1, 9, none⟩), .pointer (some ⟨g1, 10, none⟩), .pointer (some ⟨g1, 11, none⟩)]) Tryz.runUnderlying53 Tryz.sizeOf52 Tryz.isAgg52 rfl rfl (by decide) (by decide) rfl) rfl ?_
  refine O.p (Pu.assign rfl) rfl ?_
  refine O.nil ?_
  refine J.region ?_
  refine O.p (Pu.move rfl) rfl ?_
  refine O.p (Pu.move rfl) rfl ?_
  refine O.p (Pu.nilCheck rfl) rfl ?_
  refine O.q (Qt.ld rfl (Cel.var 0 rfl) (o := 0) (off := 11) rfl (Cut.one Tryz.isAgg3 rfl)) rfl ?_
  refine O.l (Lo.buildM (s := 1) encZ [r.d11] [(0, .int .i64 r.d11)] (by exact Tryz.runUnderlying34) (by exact Tryz.sizeOf3) (by exact Tryz.zeroValue3) rfl rfl rfl (by kernel_rfl) rfl rfl) rfl ?_
  rintro V26 _ rfl
  refine O.l (Lo.appendM (s := 1) 2 (by exact Tryz.underlying34) (by exact (info3).1) (by exact (info3).2.1) (by exact (info3).2.2.1) (by exact (info3).2.2.2) rfl rfl rfl rfl rfl (Src.row 0 rfl) encZ.one (by first | omega | decide | (simp; done)) (by first | omega | decide | (simp; done))) rfl ?_
  rintro V27 _ rfl
  refine O.p (Pu.assign rfl) rfl ?_
  refine O.nil ?_
  refine J.blk ?_
  refine J.region ?_
  refine O.p (Pu.add' rfl rfl (by first | omega | (simp only [List.length_append, List.length_cons, List.length_nil, List.length_set]; omega))) rfl ?_
  refine O.p (Pu.move rfl) rfl ?_
  refine O.nil ?_
  exact J.lp ⟨12, V27⟩ (show 12 ≤ 12 from (by omega)) (show 12 - 12 < 12 - 11 from (by first | omega | decide | (simp; done))) ⟨rfl, rfl, rfl, (congrArg (fun z => some (Value.int .i64 z)) (by first | rfl | omega : (11 + 1 : Int) = (12 : Int))), trivial⟩ [1, 2] (by decide) rfl
 ·
  show J _ _ [(2, str ([] : List UInt8)), (3, V), (6, .agg #[.pointer (some ⟨g1, 0, none⟩), .pointer (some ⟨g1, 1, none⟩), .pointer (some ⟨g1, 2, none⟩), .pointer (some ⟨g1, 3, none⟩), .pointer (some ⟨g1, 4, none⟩), .pointer (some ⟨g1, 5, none⟩), .pointer (some ⟨g1, 6, none⟩), .pointer (some ⟨g1, 7, none⟩), .pointer (some ⟨g1, 8, none⟩), .pointer (some ⟨g1, 9, none⟩), .pointer (some ⟨g1, 10, none⟩), .pointer (some ⟨g1, 11, none⟩)]), (7, .int .i64 12)] [var g1 [.int .i64 r.d0, .int .i64 r.d1, .int .i64 r.d2, .int .i64 r.d3, .int .i64 r.d4, .int .i64 r.d5, .int .i64 r.d6, .int .i64 r.d7, .int .i64 r.d8, .int .i64 r.d9, .int .i64 r.d10, .int .i64 r.d11] 23, row V 3 1 (([r.d0, r.d1, r.d2, r.d3, r.d4, r.d5, r.d6, r.d7, r.d8, r.d9, r.d10, r.d11].take 12).map encZ)]
  refine J.seq ?_
  refine J.region ?_
  refine O.p (Pu.lss rfl rfl) rfl ?_
  refine O.nil ?_
  refine J.seq ?_
  refine J.condF rfl rfl ?_
  refine J.exit _ rfl ?_
  refine J.seq ?_
  refine J.region ?_
  refine O.l (Lo.call [] (by exact Tryz.call21) rfl rp_names [] [0, 1] (by decide) rfl [var g1 [.int .i64 r.d0, .int .i64 r.d1, .int .i64 r.d2, .int .i64 r.d3, .int .i64 r.d4, .int .i64 r.d5, .int .i64 r.d6, .int .i64 r.d7, .int .i64 r.d8, .int .i64 r.d9, .int .i64 r.d10, .int .i64 r.d11] 23, row V 3 1 (([r.d0, r.d1, r.d2, r.d3, r.d4, r.d5, r.d6, r.d7, r.d8, r.d9, r.d10, r.d11].take 12).map encZ)] rfl RoOk.nil) rfl ?_
  rintro v28 _ ⟨_, rfl, rfl⟩
  refine O.p (Pu.move rfl) rfl ?_
  refine O.l (Lo.call [str ([114, 101, 112, 111, 114, 116]), v28, V] (by exact Tryz.call26) rfl (cf_Row ([114, 101, 112, 111, 114, 116]) v28 Rp.names V ([r.d0, r.d1, r.d2, r.d3, r.d4, r.d5, r.d6, r.d7, r.d8, r.d9, r.d10, r.d11].take 12) (by decide) (fun x h => Nat.le_trans (Rp.names_le x h) (by decide)) (by decide) (by exact Nat.le_of_ble_eq_true rfl) hI) [] [0, 1, 2] (by decide) rfl [row v28 9 1 (Rp.names.map encS), var g1 [.int .i64 r.d0, .int .i64 r.d1, .int .i64 r.d2, .int .i64 r.d3, .int .i64 r.d4, .int .i64 r.d5, .int .i64 r.d6, .int .i64 r.d7, .int .i64 r.d8, .int .i64 r.d9, .int .i64 r.d10, .int .i64 r.d11] 23, row V 3 1 (([r.d0, r.d1, r.d2, r.d3, r.d4, r.d5, r.d6, r.d7, r.d8, r.d9, r.d10, r.d11].take 12).map encZ)] rfl (RoOk.ro 0 rfl [] rfl (RoOk.of 0 rfl row_rd [] (by decide) rfl (RoOk.of 2 rfl row_rd [] (by decide) rfl RoOk.nil)))) rfl ?_
  rintro _ _ ⟨_, ⟨rfl, rfl⟩, rfl⟩
  refine O.p (Pu.assign rfl) rfl ?_
  refine O.nil ?_
  exact J.ret (Fin.ret (rs := [.tmp 2]) rfl [_] ⟨rfl, trivial⟩ [] (by decide) [] rfl ⟨rfl, rfl⟩)

set_option maxRecDepth 100000 in
set_option maxHeartbeats 1000000 in
theorem rp_Parse (line : Wd.Bs) (hs : line.length ≤ 100000) : Tri Tryz.prog 6 #[str line] [libW] [] (fun v L' => v = .tuple #[.agg #[.int .i64 (((Rp.parse line).1).d0), .int .i64 (((Rp.parse line).1).d1), .int .i64 (((Rp.parse line).1).d2), .int .i64 (((Rp.parse line).1).d3), .int .i64 (((Rp.parse line).1).d4), .int .i64 (((Rp.parse line).1).d5), .int .i64 (((Rp.parse line).1).d6), .int .i64 (((Rp.parse line).1).d7), .int .i64 (((Rp.parse line).1).d8), .int .i64 (((Rp.parse line).1).d9), .int .i64 (((Rp.parse line).1).d10), .int .i64 (((Rp.parse line).1).d11)], .int .i64 (Rp.parse line).2] ∧ L' = []) := by
 refine Tri.enter (args := [str line]) (body := _) 31 Tryz.func6 rfl Tryz.ntmps6 rfl ?_
 intro w0
 refine J.seq ?_
 refine J.region ?_
 refine O.l (Lo.alloc [.int .i64 0, .int .i64 0, .int .i64 0, .int .i64 0, .int .i64 0, .int .i64 0, .int .i64 0, .int .i64 0, .int .i64 0, .int .i64 0, .int .i64 0, .int .i64 0] (by exact Tryz.zeroValue23) rfl) rfl ?_
 rintro _ _ ⟨g1, rfl, rfl⟩
 refine O.p (Pu.assign rfl) rfl ?_
 refine O.nil ?_
 refine J.seq ?_
 refine J.region ?_
 refine O.p (Pu.move rfl) rfl ?_
 refine O.l (Lo.call [] (by exact Tryz.call21) rfl rp_names [] [0] (by decide) rfl [var g1 [.int .i64 0, .int .i64 0, .int .i64 0, .int .i64 0, .int .i64 0, .int .i64 0, .int .i64 0, .int .i64 0, .int .i64 0, .int .i64 0, .int .i64 0, .int .i64 0] 23] rfl RoOk.nil) rfl ?_
 rintro v2 _ ⟨_, rfl, rfl⟩
 refine O.l (Lo.call [str line, str ([114, 101, 112, 111, 114, 116]), v2] (by exact Tryz.call20) rfl (cf_Numbers line ([114, 101, 112, 111, 114, 116]) v2 Rp.names (by omega) (by decide) (fun x h => Nat.le_trans (Rp.names_le x h) (by decide))) [] [0, 1] (by decide) rfl [row v2 9 1 (Rp.names.map encS), var g1 [.int .i64 0, .int .i64 0, .int .i64 0, .int .i64 0, .int .i64 0, .int .i64 0, .int .i64 0, .int .i64 0, .int .i64 0, .int .i64 0, .int .i64 0, .int .i64 0] 23] rfl (RoOk.ro 0 rfl [] rfl (RoOk.of 0 rfl row_rd [] (by decide) rfl RoOk.nil))) rfl ?_
 rintro _ _ ⟨_, ⟨V3, rfl, rfl⟩, rfl⟩
 refine O.p (Pu.move rfl) rfl ?_
 refine O.p (Pu.extract rfl rfl) rfl ?_
 refine O.p (Pu.extract rfl rfl) rfl ?_
 refine O.p (Pu.assign rfl) rfl ?_
 refine O.p (Pu.assign rfl) rfl ?_
 refine O.nil ?_
 refine J.seq ?_
 refine J.seq ?_
 refine J.region ?_
 refine O.p (Pu.move rfl) rfl ?_
 refine O.p (Pu.not rfl) rfl ?_
 refine O.nil ?_
 refine J.cond rfl (fun h5 => ?_) (fun h5 => ?_)
 ·
  have h6 : ((Cf.numbers line ([114, 101, 112, 111, 114, 116]) Rp.names).2) = false := not_flip h5
  refine J.seq ?_
  refine J.region ?_
  refine O.p (Pu.build [] [.int .i64 0, .int .i64 0, .int .i64 0, .int .i64 0, .int .i64 0, .int .i64 0, .int .i64 0, .int .i64 0, .int .i64 0, .int .i64 0, .int .i64 0, .int .i64 0] #[(0, 1), (1, 1), (2, 1), (3, 1), (4, 1), (5, 1), (6, 1), (7, 1), (8, 1), (9, 1), (10, 1), (11, 1)] Tryz.runUnderlying23 Tryz.zeroValue23 (places23 Tryz.underlying23) rfl (by kernel_rfl)) rfl ?_
  refine O.l0 (Lo.store 2 (vs := [.int .i64 0, .int .i64 0, .int .i64 0, .int .i64 0, .int .i64 0, .int .i64 0, .int .i64 0, .int .i64 0, .int .i64 0, .int .i64 0, .int .i64 0, .int .i64 0]) [.int .i64 0, .int .i64 0, .int .i64 0, .int .i64 0, .int .i64 0, .int .i64 0, .int .i64 0, .int .i64 0, .int .i64 0, .int .i64 0, .int .i64 0, .int .i64 0] rfl rfl rfl (by exact Tryz.sizeOf23) rfl rfl rfl rfl rfl) ?_
  rintro _ _ rfl
  refine O.p (Pu.assign rfl) rfl ?_
  refine O.nil ?_
  exact J.ret (Fin.ret (rs := [.cell 2 23, .tmp 3]) rfl [_, _] ⟨⟨_, _, 0, 0, _, rfl, (Cel.var 2 rfl), rfl, (Cut.agg [.int .i64 0, .int .i64 0, .int .i64 0, .int .i64 0, .int .i64 0, .int .i64 0, .int .i64 0, .int .i64 0, .int .i64 0, .int .i64 0, .int .i64 0, .int .i64 0] Tryz.isAgg23 Tryz.sizeOf23 rfl rfl)⟩, rfl, trivial⟩ [] (by decide) [] rfl ⟨(by rw [Rp.parse_no' ‹_›]; rfl), rfl⟩)
 ·
  have h7 : ((Cf.numbers line ([114, 101, 112, 111, 114, 116]) Rp.names).2) = true := not_flip h5
  refine J.skip ?_
  refine J.seq ?_
  obtain ⟨y0, y1, y2, y3, y4, y5, y6, y7, y8, y9, y10, y11, hy⟩ := Rp.ex12 ((Cf.numbers_len (by assumption : (Cf.numbers line [114, 101, 112, 111, 114, 116] Rp.names).2 = true)).trans Rp.names_len)
  rw [hy]
  show J _ _ _ [row V3 3 1 (([y0, y1, y2, y3, y4, y5, y6, y7, y8, y9, y10, y11]).map encZ), row v2 9 1 (Rp.names.map encS), var g1 [.int .i64 0, .int .i64 0, .int .i64 0, .int .i64 0, .int .i64 0, .int .i64 0, .int .i64 0, .int .i64 0, .int .i64 0, .int .i64 0, .int .i64 0, .int .i64 0] 23]
  refine J.region ?_
  refine O.l (Lo.alloc [.int .i64 0, .int .i64 0, .int .i64 0, .int .i64 0, .int .i64 0, .int .i64 0, .int .i64 0, .int .i64 0, .int .i64 0, .int .i64 0, .int .i64 0, .int .i64 0] (by exact Tryz.zeroValue23) rfl) rfl ?_
  rintro _ _ ⟨g8, rfl, rfl⟩
  refine O.nil ?_
  refine J.seq ?_
  refine J.seq ?_
  refine J.region ?_
  refine O.l (Lo.call [.pointer (some ⟨g8, 0, none⟩)] (by exact Tryz.call22) rfl (rp_fields g8) [] [0, 1, 2, 3] (by decide) rfl [var g8 [.int .i64 0, .int .i64 0, .int .i64 0, .int .i64 0, .int .i64 0, .int .i64 0, .int .i64 0, .int .i64 0, .int .i64 0, .int .i64 0, .int .i64 0, .int .i64 0] 23, row V3 3 1 (([y0, y1, y2, y3, y4, y5, y6, y7, y8, y9, y10, y11]).map encZ), row v2 9 1 (Rp.names.map encS), var g1 [.int .i64 0, .int .i64 0, .int .i64 0, .int .i64 0, .int .i64 0, .int .i64 0, .int .i64 0, .int .i64 0, .int .i64 0, .int .i64 0, .int .i64 0, .int .i64 0] 23] rfl RoOk.nil) rfl ?_
  rintro _ _ ⟨_, ⟨rfl, rfl⟩, rfl⟩
  refine O.p (Pu.move rfl) rfl ?_
  refine O.nil ?_
  refine J.block ?_
  refine J.loop (X := Nat) (fun ξ => ξ ≤ 12) (fun ξ => [(2, .pointer (some ⟨g1, 0, none⟩)), (3, .int .i64 0), (4, V3), (6, .pointer (some ⟨g8, 0, none⟩)), (18, .agg #[.pointer (some ⟨g8, 0, none⟩), .pointer (some ⟨g8, 1, none⟩), .pointer (some ⟨g8, 2, none⟩), .pointer (some ⟨g8, 3, none⟩), .pointer (some ⟨g8, 4, none⟩), .pointer (some ⟨g8, 5, none⟩), .pointer (some ⟨g8, 6, none⟩), .pointer (some ⟨g8, 7, none⟩), .pointer (some ⟨g8, 8, none⟩), .pointer (some ⟨g8, 9, none⟩), .pointer (some ⟨g8, 10, none⟩), .pointer (some ⟨g8, 11, none⟩)]), (19, .int .i64 (ξ : Int))]) (fun ξ => [row V3 3 1 (([y0, y1, y2, y3, y4, y5, y6, y7, y8, y9, y10, y11]).map encZ), var g8 (([y0, y1, y2, y3, y4, y5, y6, y7, y8, y9, y10, y11].take ξ ++ [0, 0, 0, 0, 0, 0, 0, 0, 0, 0, 0, 0].drop ξ).map vI) 23, var g1 [.int .i64 0, .int .i64 0, .int .i64 0, .int .i64 0, .int .i64 0, .int .i64 0, .int .i64 0, .int .i64 0, .int .i64 0, .int .i64 0, .int .i64 0, .int .i64 0] 23]) (fun ξ => 12 - ξ) 0 (show 0 ≤ 12 from (by omega)) ⟨rfl, rfl, rfl, rfl, rfl, (congrArg (fun z => some (Value.int .i64 z)) (by first | rfl | omega : (0 : Int) = (0 : Int))), trivial⟩ [1, 0, 3] (by decide) rfl ?_
  rintro k hq10
  obtain hk : k ≤ 12 := hq10
  show J _ _ [(2, .pointer (some ⟨g1, 0, none⟩)), (3, .int .i64 0), (4, V3), (6, .pointer (some ⟨g8, 0, none⟩)), (18, .agg #[.pointer (some ⟨g8, 0, none⟩), .pointer (some ⟨g8, 1, none⟩), .pointer (some ⟨g8, 2, none⟩), .pointer (some ⟨g8, 3, none⟩), .pointer (some ⟨g8, 4, none⟩), .pointer (some ⟨g8, 5, none⟩), .pointer (some ⟨g8, 6, none⟩), .pointer (some ⟨g8, 7, none⟩), .pointer (some ⟨g8, 8, none⟩), .pointer (some ⟨g8, 9, none⟩), .pointer (some ⟨g8, 10, none⟩), .pointer (some ⟨g8, 11, none⟩)]), (19, .int .i64 (k : Int))] [row V3 3 1 (([y0, y1, y2, y3, y4, y5, y6, y7, y8, y9, y10, y11]).map encZ), var g8 (([y0, y1, y2, y3, y4, y5, y6, y7, y8, y9, y10, y11].take k ++ [0, 0, 0, 0, 0, 0, 0, 0, 0, 0, 0, 0].drop k).map vI) 23, var g1 [.int .i64 0, .int .i64 0, .int .i64 0, .int .i64 0, .int .i64 0, .int .i64 0, .int .i64 0, .int .i64 0, .int .i64 0, .int .i64 0, .int .i64 0, .int .i64 0] 23]
  obtain rfl | rfl | rfl | rfl | rfl | rfl | rfl | rfl | rfl | rfl | rfl | rfl | rfl : k = 0 ∨ k = 1 ∨ k = 2 ∨ k = 3 ∨ k = 4 ∨ k = 5 ∨ k = 6 ∨ k = 7 ∨ k = 8 ∨ k = 9 ∨ k = 10 ∨ k = 11 ∨ k = 12 := by omega
  ·
   show J _ _ [(2, .pointer (some ⟨g1, 0, none⟩)), (3, .int .i64 0), (4, V3), (6, .pointer (some ⟨g8, 0, none⟩)), (18, .agg #[.pointer (some ⟨g8, 0, none⟩), .pointer (some ⟨g8, 1, none⟩), .pointer (some ⟨g8, 2, none⟩), .pointer (some ⟨g8, 3, none⟩), .pointer (some ⟨g8, 4, none⟩), .pointer (some ⟨g8, 5, none⟩), .pointer (some ⟨g8, 6, none⟩), .pointer (some ⟨g8, 7, none⟩), .pointer (some ⟨g8, 8, none⟩), .pointer (some ⟨g8, 9, none⟩), .pointer (some ⟨g8, 10, none⟩), .pointer (some ⟨g8, 11, none⟩)]), (19, .int .i64 0)] [row V3 3 1 (([y0, y1, y2, y3, y4, y5, y6, y7, y8, y9, y10, y11]).map encZ), var g8 [.int .i64 0, .int .i64 0, .int .i64 0, .int .i64 0, .int .i64 0, .int .i64 0, .int .i64 0, .int .i64 0, .int .i64 0, .int .i64 0, .int .i64 0, .int .i64 0] 23, var g1 [.int .i64 0, .int .i64 0, .int .i64 0, .int .i64 0, .int .i64 0, .int .i64 0, .int .i64 0, .int .i64 0, .int .i64 0, .int .i64 0, .int .i64 0, .int .i64 0] 23]
   refine J.seq ?_
   refine J.region ?_
   refine O.p (Pu.lss rfl rfl) rfl ?_
   refine O.nil ?_
   refine J.seq ?_
   refine J.condT rfl rfl ?_
   refine J.skip ?_
   refine J.seq ?_
   refine J.block ?_
   refine J.seq ?_
   refine J.region ?_
   refine O.p (Pu.move rfl) rfl ?_
   refine O.p (Pu.indexK1 (cs := [.pointer (some ⟨g8, 0, none⟩), .pointer (some ⟨g8, 1, none⟩), .pointer (some ⟨g8, 2, none⟩), .pointer (some ⟨g8, 3, none⟩), .pointer (some ⟨g8, 4, none⟩), .pointer (some ⟨g8, 5, none⟩), .pointer (some ⟨g8, 6, none⟩), .pointer (some ⟨g8, 7, none⟩), .pointer (some ⟨g8, 8, none⟩), .pointer (some ⟨g8, 9, none⟩), .pointer (some ⟨g8, 10, none⟩), .pointer (some ⟨g8, 11, none⟩)]) Tryz.runUnderlying53 Tryz.sizeOf52 Tryz.isAgg52 rfl rfl (by decide) (by decide) rfl) rfl ?_
   refine O.p (Pu.assign rfl) rfl ?_
   refine O.p (Pu.assign rfl) rfl ?_
   refine O.nil ?_
   refine J.region ?_
   refine O.p (Pu.move rfl) rfl ?_
   refine O.p (Pu.move rfl) rfl ?_
   refine O.p (Pu.move rfl) rfl ?_
   have he11 : ([y0, y1, y2, y3, y4, y5, y6, y7, y8, y9, y10, y11])[0]? = some y0 := rfl
   refine O.q (Qt.idxM Tryz.runUnderlying34 Tryz.sizeOf3 rfl (Src.row 0 rfl) rfl (by first | omega | decide | (simp; done)) (by first | omega | decide | (simp; done))) rfl ?_
   refine O.q (Qt.ld rfl (Cel.eltM (Src.row 0 rfl) he11) (o := (voff V3 + 0 * 1)) (off := 0) (by omega) (Cut.one Tryz.isAgg3 rfl)) rfl ?_
   refine O.p (Pu.nilCheck rfl) rfl ?_
   refine O.l0 (Lo.store 1 (vs := [.int .i64 y0]) [.int .i64 y0, .int .i64 0, .int .i64 0, .int .i64 0, .int .i64 0, .int .i64 0, .int .i64 0, .int .i64 0, .int .i64 0, .int .i64 0, .int .i64 0, .int .i64 0] rfl rfl rfl (by exact Tryz.sizeOf3) rfl rfl rfl rfl rfl) ?_
   rintro _ _ rfl
   refine O.nil ?_
   refine J.blk ?_
   refine J.region ?_
   refine O.p (Pu.add' rfl rfl (by first | omega | (simp only [List.length_append, List.length_cons, List.length_nil, List.length_set]; omega))) rfl ?_
   refine O.p (Pu.move rfl) rfl ?_
   refine O.nil ?_
   exact J.lp 1 (show 1 ≤ 12 from (by omega)) (show 12 - 1 < 12 - 0 from (by first | omega | decide | (simp; done))) ⟨rfl, rfl, rfl, rfl, rfl, (congrArg (fun z => some (Value.int .i64 z)) (by first | rfl | omega : (0 + 1 : Int) = (1 : Int))), trivial⟩ [0, 1, 2] (by decide) rfl
  ·
   show J _ _ [(2, .pointer (some ⟨g1, 0, none⟩)), (3, .int .i64 0), (4, V3), (6, .pointer (some ⟨g8, 0, none⟩)), (18, .agg #[.pointer (some ⟨g8, 0, none⟩), .pointer (some ⟨g8, 1, none⟩), .pointer (some ⟨g8, 2, none⟩), .pointer (some ⟨g8, 3, none⟩), .pointer (some ⟨g8, 4, none⟩), .pointer (some ⟨g8, 5, none⟩), .pointer (some ⟨g8, 6, none⟩), .pointer (some ⟨g8, 7, none⟩), .pointer (some ⟨g8, 8, none⟩), .pointer (some ⟨g8, 9, none⟩), .pointer (some ⟨g8, 10, none⟩), .pointer (some ⟨g8, 11, none⟩)]), (19, .int .i64 1)] [row V3 3 1 (([y0, y1, y2, y3, y4, y5, y6, y7, y8, y9, y10, y11]).map encZ), var g8 [.int .i64 y0, .int .i64 0, .int .i64 0, .int .i64 0, .int .i64 0, .int .i64 0, .int .i64 0, .int .i64 0, .int .i64 0, .int .i64 0, .int .i64 0, .int .i64 0] 23, var g1 [.int .i64 0, .int .i64 0, .int .i64 0, .int .i64 0, .int .i64 0, .int .i64 0, .int .i64 0, .int .i64 0, .int .i64 0, .int .i64 0, .int .i64 0, .int .i64 0] 23]
   refine J.seq ?_
   refine J.region ?_
   refine O.p (Pu.lss rfl rfl) rfl ?_
   refine O.nil ?_
   refine J.seq ?_
   refine J.condT rfl rfl ?_
   refine J.skip ?_
   refine J.seq ?_
   refine J.block ?_
   refine J.seq ?_
   refine J.region ?_
   refine O.p (Pu.move rfl) rfl ?_
   refine O.p (Pu.indexK1 (cs := [.pointer (some ⟨g8, 0, none⟩), .pointer (some ⟨g8, 1, none⟩), .pointer (some ⟨g8, 2, none⟩), .pointer (some ⟨g8, 3, none⟩), .pointer (some ⟨g8, 4, none⟩), .pointer (some ⟨g8, 5, none⟩), .pointer (some ⟨g8, 6, none⟩), .pointer (some ⟨g8, 7, none⟩), .pointer (some ⟨g8, 8, none⟩), .pointer (some ⟨g8, 9, none⟩), .pointer (some ⟨g8, 10, none⟩), .pointer (some ⟨g8, 11, none⟩)]) Tryz.runUnderlying53 Tryz.sizeOf52 Tryz.isAgg52 rfl rfl (by decide) (by decide) rfl) rfl ?_
   refine O.p (Pu.assign rfl) rfl ?_
   refine O.p (Pu.assign rfl) rfl ?_
   refine O.nil ?_
   refine J.region ?_
   refine O.p (Pu.move rfl) rfl ?_
   refine O.p (Pu.move rfl) rfl ?_
   refine O.p (Pu.move rfl) rfl ?_
   have he12 : ([y0, y1, y2, y3, y4, y5, y6, y7, y8, y9, y10, y11])[1]? = some y1 := rfl
   refine O.q (Qt.idxM Tryz.runUnderlying34 Tryz.sizeOf3 rfl (Src.row 0 rfl) rfl (by first | omega | decide | (simp; done)) (by first | omega | decide | (simp; done))) rfl ?_
   refine O.q (Qt.ld rfl (Cel.eltM (Src.row 0 rfl) he12) (o := (voff V3 + 1 * 1)) (off := 0) (by omega) (Cut.one Tryz.isAgg3 rfl)) rfl ?_
   refine O.p (Pu.nilCheck rfl) rfl ?_
   refine O.l0 (Lo.store 1 (vs := [.int .i64 y1]) [.int .i64 y0, .int .i64 y1, .int .i64 0, .int .i64 0, .int .i64 0, .int .i64 0, .int .i64 0, .int .i64 0, .int .i64 0, .int .i64 0, .int .i64 0, .int .i64 0] rfl rfl rfl (by exact Tryz.sizeOf3) rfl rfl rfl rfl rfl) ?_
   rintro _ _ rfl
   refine O.nil ?_
   refine J.blk ?_
   refine J.region ?_
   refine O.p (Pu.add' rfl rfl (by first | omega | (simp only [List.length_append, List.length_cons, List.length_nil, List.length_set]; omega))) rfl ?_
   refine O.p (Pu.move rfl) rfl ?_
   refine O.nil ?_
   exact J.lp 2 (show 2 ≤ 12 from (by omega)) (show 12 - 2 < 12 - 1 from (by first | omega | decide | (simp; done))) ⟨rfl, rfl, rfl, rfl, rfl, (congrArg (fun z => some (Value.int .i64 z)) (by first | rfl | omega : (1 + 1 : Int) = (2 : Int))), trivial⟩ [0, 1, 2] (by decide) rfl
  ·
   show J _ _ [(2, .pointer (some ⟨g1, 0, none⟩)), (3, .int .i64 0), (4, V3), (6, .pointer (some ⟨g8, 0, none⟩)), (18, .agg #[.pointer (some ⟨g8, 0, none⟩), .pointer (some ⟨g8, 1, none⟩), .pointer (some ⟨g8, 2, none⟩), .pointer (some ⟨g8, 3, none⟩), .pointer (some ⟨g8, 4, none⟩), .pointer (some ⟨g8, 5, none⟩), .pointer (some ⟨g8, 6, none⟩), .pointer (some ⟨g8, 7, none⟩), .pointer (some ⟨g8, 8, none⟩), .pointer (some ⟨g8, 9, none⟩), .pointer (some ⟨g8, 10, none⟩), .pointer (some ⟨g8, 11, none⟩)]), (19, .int .i64 2)] [row V3 3 1 (([y0, y1, y2, y3, y4, y5, y6, y7, y8, y9, y10, y11]).map encZ), var g8 [.int .i64 y0, .int .i64 y1, .int .i64 0, .int .i64 0, .int .i64 0, .int .i64 0, .int .i64 0, .int .i64 0, .int .i64 0, .int .i64 0, .int .i64 0, .int .i64 0] 23, var g1 [.int .i64 0, .int .i64 0, .int .i64 0, .int .i64 0, .int .i64 0, .int .i64 0, .int .i64 0, .int .i64 0, .int .i64 0, .int .i64 0, .int .i64 0, .int .i64 0] 23]
   refine J.seq ?_
   refine J.region ?_
   refine O.p (Pu.lss rfl rfl) rfl ?_
   refine O.nil ?_
   refine J.seq ?_
   refine J.condT rfl rfl ?_
   refine J.skip ?_
   refine J.seq ?_
   refine J.block ?_
   refine J.seq ?_
   refine J.region ?_
   refine O.p (Pu.move rfl) rfl ?_
   refine O.p (Pu.indexK1 (cs := [.pointer (some ⟨g8, 0, none⟩), .pointer (some ⟨g8, 1, none⟩), .pointer (some ⟨g8, 2, none⟩), .pointer (some ⟨g8, 3, none⟩), .pointer (some ⟨g8, 4, none⟩), .pointer (some ⟨g8, 5, none⟩), .pointer (some ⟨g8, 6, none⟩), .pointer (some ⟨g8, 7, none⟩), .pointer (some ⟨g8, 8, none⟩), .pointer (some ⟨g8, 9, none⟩), .pointer (some ⟨g8, 10, none⟩), .pointer (some ⟨g8, 11, none⟩)]) Tryz.runUnderlying53 Tryz.sizeOf52 Tryz.isAgg52 rfl rfl (by decide) (by decide) rfl) rfl ?_
   refine O.p (Pu.assign rfl) rfl ?_
   refine O.p (Pu.assign rfl) rfl ?_
   refine O.nil ?_
   refine J.region ?_
   refine O.p (Pu.move rfl) rfl ?_
   refine O.p (Pu.move rfl) rfl ?_
   refine O.p (Pu.move rfl) rfl ?_
   have he13 : ([y0, y1, y2, y3, y4, y5, y6, y7, y8, y9, y10, y11])[2]? = some y2 := rfl
   refine O.q (Qt.idxM Tryz.runUnderlying34 Tryz.sizeOf3 rfl (Src.row 0 rfl) rfl (by first | omega | decide | (simp; done)) (by first | omega | decide | (simp; done))) rfl ?_
   refine O.q (Qt.ld rfl (Cel.eltM (Src.row 0 rfl) he13) (o := (voff V3 + 2 * 1)) (off := 0) (by omega) (Cut.one Tryz.isAgg3 rfl)) rfl ?_
   refine O.p (Pu.nilCheck rfl) rfl ?_
   refine O.l0 (Lo.store 1 (vs := [.int .i64 y2]) [.int .i64 y0, .int .i64 y1, .int .i64 y2, .int .i64 0, .int .i64 0, .int .i64 0, .int .i64 0, .int .i64 0, .int .i64 0, .int .i64 0, .int .i64 0, .int .i64 0] rfl rfl rfl (by exact Tryz.sizeOf3) rfl rfl rfl rfl rfl) ?_
   rintro _ _ rfl
   refine O.nil ?_
   refine J.blk ?_
   refine J.region ?_
   refine O.p (Pu.add' rfl rfl (by first | omega | (simp only [List.length_append, List.length_cons, List.length_nil, List.length_set]; omega))) rfl ?_
   refine O.p (Pu.move rfl) rfl ?_
   refine O.nil ?_
   exact J.lp 3 (show 3 ≤ 12 from (by omega)) (show 12 - 3 < 12 - 2 from (by first | omega | decide | (simp; done))) ⟨rfl, rfl, rfl, rfl, rfl, (congrArg (fun z => some (Value.int .i64 z)) (by first | rfl | omega : (2 + 1 : Int) = (3 : Int))), trivial⟩ [0, 1, 2] (by decide) rfl
  ·
   show J _ _ [(2, .pointer (some ⟨g1, 0, none⟩)), (3, .int .i64 0), (4, V3), (6, .pointer (some ⟨g8, 0, none⟩)), (18, .agg #[.pointer (some ⟨g8, 0, none⟩), .pointer (some ⟨g8, 1, none⟩), .pointer (some ⟨g8, 2, none⟩), .pointer (some ⟨g8, 3, none⟩), .pointer (some ⟨g8, 4, none⟩), .pointer (some ⟨g8, 5, none⟩), .pointer (some ⟨g8, 6, none⟩), .pointer (some ⟨g8, 7, none⟩), .pointer (some ⟨g8, 8, none⟩), .pointer (some ⟨g8, 9, none⟩), .pointer (some ⟨g8, 10, none⟩), .pointer (some ⟨g8, 11, none⟩)]), (19, .int .i64 3)] [row V3 3 1 (([y0, y1, y2, y3, y4, y5, y6, y7, y8, y9, y10, y11]).map encZ), var g8 [.int .i64 y0, .int .i64 y1, .int .i64 y2, .int .i64 0, .int .i64 0, .int .i64 0, .int .i64 0, .int .i64 0, .int .i64 0, .int .i64 0, .int .i64 0, .int .i64 0] 23, var g1 [.int .i64 0, .int .i64 0, .int .i64 0, .int .i64 0, .int .i64 0, .int .i64 0, .int .i64 0, .int .i64 0, .int .i64 0, .int .i64 0, .int .i64 0, .int .i64 0] 23]
   refine J.seq ?_
   refine J.region ?_
   refine O.p (Pu.lss rfl rfl) rfl ?_
   refine O.nil ?_
   refine J.seq ?_
   refine J.condT rfl rfl ?_
   refine J.skip ?_
   refine J.seq ?_
   refine J.block ?_
   refine J.seq ?_
   refine J.region ?_
   refine O.p (Pu.move rfl) rfl ?_
   refine O.p (Pu.indexK1 (cs := [.pointer (some ⟨g8, 0, none⟩), .pointer (some ⟨g8, 1, none⟩), .pointer (some ⟨g8, 2, none⟩), .pointer (some ⟨g8, 3, none⟩), .pointer (some ⟨g8, 4, none⟩), .pointer (some ⟨g8, 5, none⟩), .pointer (some ⟨g8, 6, none⟩), .pointer (some ⟨g8, 7, none⟩), .pointer (some ⟨g8, 8, none⟩), .pointer (some ⟨g8, 9, none⟩), .pointer (some ⟨g8, 10, none⟩), .pointer (some ⟨g8, 11, none⟩)]) Tryz.runUnderlying53 Tryz.sizeOf52 Tryz.isAgg52 rfl rfl (by decide) (by decide) rfl) rfl ?_
   refine O.p (Pu.assign rfl) rfl ?_
   refine O.p (Pu.assign rfl) rfl ?_
   refine O.nil ?_
   refine J.region ?_
   refine O.p (Pu.move rfl) rfl ?_
   refine O.p (Pu.move rfl) rfl ?_
   refine O.p (Pu.move rfl) rfl ?_
   have he14 : ([y0, y1, y2, y3, y4, y5, y6, y7, y8, y9, y10, y11])[3]? = some y3 := rfl
   refine O.q (Qt.idxM Tryz.runUnderlying34 Tryz.sizeOf3 rfl (Src.row 0 rfl) rfl (by first | omega | decide | (simp; done)) (by first | omega | decide | (simp; done))) rfl ?_
   refine O.q (Qt.ld rfl (Cel.eltM (Src.row 0 rfl) he14) (o := (voff V3 + 3 * 1)) (off := 0) (by omega) (Cut.one Tryz.isAgg3 rfl)) rfl ?_
   refine O.p (Pu.nilCheck rfl) rfl ?_
   refine O.l0 (Lo.store 1 (vs := [.int .i64 y3]) [.int .i64 y0, .int .i64 y1, .int .i64 y2, .int .i64 y3, .int .i64 0, .int .i64 0, .int .i64 0, .int .i64 0, .int .i64 0, .int .i64 0, .int .i64 0, .int .i64 0] rfl rfl rfl (by exact Tryz.sizeOf3) rfl rfl rfl rfl rfl) ?_
   rintro _ _ rfl
   refine O.nil ?_
   refine J.blk ?_
   refine J.region ?_
   refine O.p (Pu.add' rfl rfl (by first | omega | (simp only [List.length_append, List.length_cons, List.length_nil, List.length_set]; omega))) rfl ?_
   refine O.p (Pu.move rfl) rfl ?_
   refine O.nil ?_
   exact J.lp 4 (show 4 ≤ 12 from (by omega)) (show 12 - 4 < 12 - 3 from (by first | omega | decide | (simp; done))) ⟨rfl, rfl, rfl, rfl, rfl, (congrArg (fun z => some (Value.int .i64 z)) (by first | rfl | omega : (3 + 1 : Int) = (4 : Int))), trivial⟩ [0, 1, 2] (by decide) rfl
  ·
   show J _ _ [(2, .pointer (some ⟨g1, 0, none⟩)), (3, .int .i64 0), (4, V3), (6, .pointer (some ⟨g8, 0, none⟩)), (18, .agg #[.pointer (some ⟨g8, 0, none⟩), .pointer (some ⟨g8, 1, none⟩), .pointer (some ⟨g8, 2, none⟩), .pointer (some ⟨g8, 3, none⟩), .pointer (some ⟨g8, 4, none⟩), .pointer (some ⟨g8, 5, none⟩), .pointer (some ⟨g8, 6, none⟩), .pointer (some ⟨g8, 7, none⟩), .pointer (some ⟨g8, 8, none⟩), .pointer (some ⟨g8, 9, none⟩), .pointer (some ⟨g8, 10, none⟩), .pointer (some ⟨g8, 11, none⟩)]), (19, .int .i64 4)] [row V3 3 1 (([y0, y1, y2, y3, y4, y5, y6, y7, y8, y9, y10, y11]).map encZ), var g8 [.int .i64 y0, .int .i64 y1, .int .i64 y2, .int .i64 y3, .int .i64 0, .int .i64 0, .int .i64 0, .int .i64 0, .int .i64 0, .int .i64 0, .int .i64 0, .int .i64 0] 23, var g1 [.int .i64 0, .int .i64 0, .int .i64 0, .int .i64 0, .int .i64 0, .int .i64 0, .int .i64 0, .int .i64 0, .int .i64 0, .int .i64 0, .int .i64 0, .int .i64 0] 23]
   refine J.seq ?_
   refine J.region ?_
   refine O.p (Pu.lss rfl rfl) rfl ?_
   refine O.nil ?_
   refine J.seq ?_
   refine J.condT rfl rfl ?_
   refine J.skip ?_
   refine J.seq ?_
   refine J.block ?_
   refine J.seq ?_
   refine J.region ?_
   refine O.p (Pu.move rfl) rfl ?_
   refine O.p (Pu.indexK1 (cs := [.pointer (some ⟨g8, 0, none⟩), .pointer (some ⟨g8, 1, none⟩), .pointer (some ⟨g8, 2, none⟩), .pointer (some ⟨g8, 3, none⟩), .pointer (some ⟨g8, 4, none⟩), .pointer (some ⟨g8, 5, none⟩), .pointer (some ⟨g8, 6, none⟩), .pointer (some ⟨g8, 7, none⟩), .pointer (some ⟨g8, 8, none⟩), .pointer (some ⟨g8, 9, none⟩), .pointer (some ⟨g8, 10, none⟩), .pointer (some ⟨g8, 11, none⟩)]) Tryz.runUnderlying53 Tryz.sizeOf52 Tryz.isAgg52 rfl rfl (by decide) (by decide) rfl) rfl ?_
   refine O.p (Pu.assign rfl) rfl ?_
   refine O.p (Pu.assign rfl) rfl ?_
   refine O.nil ?_
   refine J.region ?_
   refine O.p (Pu.move rfl) rfl ?_
   refine O.p (Pu.move rfl) rfl ?_
   refine O.p (Pu.move rfl) rfl ?_
   have he15 : ([y0, y1, y2, y3, y4, y5, y6, y7, y8, y9, y10, y11])[4]? = some y4 := rfl
   refine O.q (Qt.idxM Tryz.runUnderlying34 Tryz.sizeOf3 rfl (Src.row 0 rfl) rfl (by first | omega | decide | (simp; done)) (by first | omega | decide | (simp; done))) rfl ?_
   refine O.q (Qt.ld rfl (Cel.eltM (Src.row 0 rfl) he15) (o := (voff V3 + 4 * 1)) (off := 0) (by omega) (Cut.one Tryz.isAgg3 rfl)) rfl ?_
   refine O.p (Pu.nilCheck rfl) rfl ?_
   refine O.l0 (Lo.store 1 (vs := [.int .i64 y4]) [.int .i64 y0, .int .i64 y1, .int .i64 y2, .int .i64 y3, .int .i64 y4, .int .i64 0, .int .i64 0, .int .i64 0, .int .i64 0, .int .i64 0, .int .i64 0, .int .i64 0] rfl rfl rfl (by exact Tryz.sizeOf3) rfl rfl rfl rfl rfl) ?_
   rintro _ _ rfl
   refine O.nil ?_
   refine J.blk ?_
   refine J.region ?_
   refine O.p (Pu.add' rfl rfl (by first | omega | (simp only [List.length_append, List.length_cons, List.length_nil, List.length_set]; omega))) rfl ?_
   refine O.p (Pu.move rfl) rfl ?_
   refine O.nil ?_
   exact J.lp 5 (show 5 ≤ 12 from (by omega)) (show 12 - 5 < 12 - 4 from (by first | omega | decide | (simp; done))) ⟨rfl, rfl, rfl, rfl, rfl, (congrArg (fun z => some (Value.int .i64 z)) (by first | rfl | omega : (4 + 1 : Int) = (5 : Int))), trivial⟩ [0, 1, 2] (by decide) rfl
  ·
   show J _ _ [(2, .pointer (some ⟨g1, 0, none⟩)), (3, .int .i64 0), (4, V3), (6, .pointer (some ⟨g8, 0, none⟩)), (18, .agg #[.pointer (some ⟨g8, 0, none⟩), .pointer (some ⟨g8, 1, none⟩), .pointer (some ⟨g8, 2, none⟩), .pointer (some ⟨g8, 3, none⟩), .pointer (some ⟨g8, 4, none⟩), .pointer (some ⟨g8, 5, none⟩), .pointer (some ⟨g8, 6, none⟩), .pointer (some ⟨g8, 7, none⟩), .pointer (some ⟨g8, 8, none⟩), .pointer (some ⟨g8, 9, none⟩), .pointer (some ⟨g8, 10, none⟩), .pointer (some ⟨g8, 11, none⟩)]), (19, .int .i64 5)] [row V3 3 1 (([y0, y1, y2, y3, y4, y5, y6, y7, y8, y9, y10, y11]).map encZ), var g8 [.int .i64 y0, .int .i64 y1, .int .i64 y2, .int .i64 y3, .int .i64 y4, .int .i64 0, .int .i64 0, .int .i64 0, .int .i64 0, .int .i64 0, .int .i64 0, .int .i64 0] 23, var g1 [.int .i64 0, .int .i64 0, .int .i64 0, .int .i64 0, .int .i64 0, .int .i64 0, .int .i64 0, .int .i64 0, .int .i64 0, .int .i64 0, .int .i64 0, .int .i64 0] 23]
   refine J.seq ?_
   refine J.region ?_
   refine O.p (Pu.lss rfl rfl) rfl ?_
   refine O.nil ?_
   refine J.seq ?_
   refine J.condT rfl rfl ?_
   refine J.skip ?_
   refine J.seq ?_
   refine J.block ?_
   refine J.seq ?_
   refine J.region ?_
   refine O.p (Pu.move rfl) rfl ?_
   refine O.p (Pu.indexK1 (cs := [.pointer (some ⟨g8, 0, none⟩), .pointer (some ⟨g8, 1, none⟩), .pointer (some ⟨g8, 2, none⟩), .pointer (some ⟨g8, 3, none⟩), .pointer (some ⟨g8, 4, none⟩), .pointer (some ⟨g8, 5, none⟩), .pointer (some ⟨g8, 6, none⟩), .pointer (some ⟨g8, 7, none⟩), .pointer (some ⟨g8, 8, none⟩), .pointer (some ⟨g8, 9, none⟩), .pointer (some ⟨g8, 10, none⟩), .pointer (some ⟨g8, 11, none⟩)]) Tryz.runUnderlying53 Tryz.sizeOf52 Tryz.isAgg52 rfl rfl (by decide) (by decide) rfl) rfl ?_
   refine O.p (Pu.assign rfl) rfl ?_
   refine O.p (Pu.assign rfl) rfl ?_
   refine O.nil ?_
   refine J.region ?_
   refine O.p (Pu.move rfl) rfl ?_
   refine O.p (Pu.move rfl) rfl ?_
   refine O.p (Pu.move rfl) rfl ?_
   have he16 : ([y0, y1, y2, y3, y4, y5, y6, y7, y8, y9, y10, y11])[5]? = some y5 := rfl
   refine O.q (Qt.idxM Tryz.runUnderlying34 Tryz.sizeOf3 rfl (Src.row 0 rfl) rfl (by first | omega | decide | (simp; done)) (by first | omega | decide | (simp; done))) rfl ?_
   refine O.q (Qt.ld rfl (Cel.eltM (Src.row 0 rfl) he16) (o := (voff V3 + 5 * 1)) (off := 0) (by omega) (Cut.one Tryz.isAgg3 rfl)) rfl ?_
   refine O.p (Pu.nilCheck rfl) rfl ?_
   refine O.l0 (Lo.store 1 (vs := [.int .i64 y5]) [.int .i64 y0, .int .i64 y1, .int .i64 y2, .int .i64 y3, .int .i64 y4, .int .i64 y5, .int .i64 0, .int .i64 0, .int .i64 0, .int .i64 0, .int .i64 0, .int .i64 0] rfl rfl rfl (by exact Tryz.sizeOf3) rfl rfl rfl rfl rfl) ?_
   rintro _ _ rfl
   refine O.nil ?_
   refine J.blk ?_
   refine J.region ?_
   refine O.p (Pu.add' rfl rfl (by first | omega | (simp only [List.length_append, List.length_cons, List.length_nil, List.length_set]; omega))) rfl ?_
   refine O.p (Pu.move rfl) rfl ?_
   refine O.nil ?_
   exact J.lp 6 (show 6 ≤ 12 from (by omega)) (show 12 - 6 < 12 - 5 from (by first | omega | decide | (simp; done))) ⟨rfl, rfl, rfl, rfl, rfl, (congrArg (fun z => some (Value.int .i64 z)) (by first | rfl | omega : (5 + 1 : Int) = (6 : Int))), trivial⟩ [0, 1, 2] (by decide) rfl
  ·
   show J _ _ [(2, .pointer (some ⟨g1, 0, none⟩)), (3, .int .i64 0), (4, V3), (6, .pointer (some ⟨g8, 0, none⟩)), (18, .agg #[.pointer (some ⟨g8, 0, none⟩), .pointer (some ⟨g8, 1, none⟩), .pointer (some ⟨g8, 2, none⟩), .pointer (some ⟨g8, 3, none⟩), .pointer (some ⟨g8, 4, none⟩), .pointer (some ⟨g8, 5, none⟩), .pointer (some ⟨g8, 6, none⟩), .pointer (some ⟨g8, 7, none⟩), .pointer (some ⟨g8, 8, none⟩), .pointer (some ⟨g8, 9, none⟩), .pointer (some ⟨g8, 10, none⟩), .pointer (some ⟨g8, 11, none⟩)]), (19, .int .i64 6)] [row V3 3 1 (([y0, y1, y2, y3, y4, y5, y6, y7, y8, y9, y10, y11]).map encZ), var g8 [.int .i64 y0, .int .i64 y1, .int .i64 y2, .int .i64 y3, .int .i64 y4, .int .i64 y5, .int .i64 0, .int .i64 0, .int .i64 0, .int .i64 0, .int .i64 0, .int .i64 0] 23, var g1 [.int .i64 0, .int .i64 0, .int .i64 0, .int .i64 0, .int .i64 0, .int .i64 0, .int .i64 0, .int .i64 0, .int .i64 0, .int .i64 0, .int .i64 0, .int .i64 0] 23]
   refine J.seq ?_
   refine J.region ?_
   refine O.p (Pu.lss rfl rfl) rfl ?_
   refine O.nil ?_
   refine J.seq ?_
   refine J.condT rfl rfl ?_
   refine J.skip ?_
   refine J.seq ?_
   refine J.block ?_
   refine J.seq ?_
   refine J.region ?_
   refine O.p (Pu.move rfl) rfl ?_
   refine O.p (Pu.indexK1 (cs := [.pointer (some ⟨g8, 0, none⟩), .pointer (some ⟨g8, 1, none⟩), .pointer (some ⟨g8, 2, none⟩), .pointer (some ⟨g8, 3, none⟩), .pointer (some ⟨g8, 4, none⟩), .pointer (some ⟨g8, 5, none⟩), .pointer (some ⟨g8, 6, none⟩), .pointer (some ⟨g8, 7, none⟩), .pointer (some ⟨g8, 8, none⟩), .pointer (some ⟨g8, 9, none⟩), .pointer (some ⟨g8, 10, none⟩), .pointer (some ⟨g8, 11, none⟩)]) Tryz.runUnderlying53 Tryz.sizeOf52 Tryz.isAgg52 rfl rfl (by decide) (by decide) rfl) rfl ?_
   refine O.p (Pu.assign rfl) rfl ?_
   refine O.p (Pu.assign rfl) rfl ?_
   refine O.nil ?_
   refine J.region ?_
   refine O.p (Pu.move rfl) rfl ?_
   refine O.p (Pu.move rfl) rfl ?_
   refine O.p (Pu.move rfl) rfl ?_
   have he17 : ([y0, y1, y2, y3, y4, y5, y6, y7, y8, y9, y10, y11])[6]? = some y6 := rfl
   refine O.q (Qt.idxM Tryz.runUnderlying34 Tryz.sizeOf3 rfl (Src.row 0 rfl) rfl (by first | omega | decide | (simp; done)) (by first | omega | decide | (simp; done))) rfl ?_
   refine O.q (Qt.ld rfl (Cel.eltM (Src.row 0 rfl) he17) (o := (voff V3 + 6 * 1)) (off := 0) (by omega) (Cut.one Tryz.isAgg3 rfl)) rfl ?_
   refine O.p (Pu.nilCheck rfl) rfl ?_
   refine O.l0 (Lo.store 1 (vs := [.int .i64 y6]) [.int .i64 y0, .int .i64 y1, .int .i64 y2, .int .i64 y3, .int .i64 y4, .int .i64 y5, .int .i64 y6, .int .i64 0, .int .i64 0, .int .i64 0, .int .i64 0, .int .i64 0] rfl rfl rfl (by exact Tryz.sizeOf3) rfl rfl rfl rfl rfl) ?_
   rintro _ _ rfl
   refine O.nil ?_
   refine J.blk ?_
   refine J.region ?_
   refine O.p (Pu.add' rfl rfl (by first | omega | (simp only [List.length_append, List.length_cons, List.length_nil, List.length_set]; omega))) rfl ?_
   refine O.p (Pu.move rfl) rfl ?_
   refine O.nil ?_
   exact J.lp 7 (show 7 ≤ 12 from (by omega)) (show 12 - 7 < 12 - 6 from (by first | omega | decide | (simp; done))) ⟨rfl, rfl, rfl, rfl, rfl, (congrArg (fun z => some (Value.int .i64 z)) (by first | rfl | omega : (6 + 1 : Int) = (7 : Int))), trivial⟩ [0, 1, 2] (by decide) rfl
  ·
   show J _ _ [(2, .pointer (some ⟨g1, 0, none⟩)), (3, .int .i64 0), (4, V3), (6, .pointer (some ⟨g8, 0, none⟩)), (18, .agg #[.pointer (some ⟨g8, 0, none⟩), .pointer (some ⟨g8, 1, none⟩), .pointer (some ⟨g8, 2, none⟩), .pointer (some ⟨g8, 3, none⟩), .pointer (some ⟨g8, 4, none⟩), .pointer (some ⟨g8, 5, none⟩), .pointer (some ⟨g8, 6, none⟩), .pointer (some ⟨g8, 7, none⟩), .pointer (some ⟨g8, 8, none⟩), .pointer (some ⟨g8, 9, none⟩), .pointer (some ⟨g8, 10, none⟩), .pointer (some ⟨g8, 11, none⟩)]), (19, .int .i64 7)] [row V3 3 1 (([y0, y1, y2, y3, y4, y5, y6, y7, y8, y9, y10, y11]).map encZ), var g8 [.int .i64 y0, .int .i64 y1, .int .i64 y2, .int .i64 y3, .int .i64 y4, .int .i64 y5, .int .i64 y6, .int .i64 0, .int .i64 0, .int .i64 0, .int .i64 0, .int .i64 0] 23, var g1 [.int .i64 0, .int .i64 0, .int .i64 0, .int .i64 0, .int .i64 0, .int .i64 0, .int .i64 0, .int .i64 0, .int .i64 0, .int .i64 0, .int .i64 0, .int .i64 0] 23]
   refine J.seq ?_
   refine J.region ?_
   refine O.p (Pu.lss rfl rfl) rfl ?_
   refine O.nil ?_
   refine J.seq ?_
   refine J.condT rfl rfl ?_
   refine J.skip ?_
   refine J.seq ?_
   refine J.block ?_
   refine J.seq ?_
   refine J.region ?_
   refine O.p (Pu.move rfl) rfl ?_
   refine O.p (Pu.indexK1 (cs := [.pointer (some ⟨g8, 0, none⟩), .pointer (some ⟨g8, 1, none⟩), .pointer (some ⟨g8, 2, none⟩), .pointer (some ⟨g8, 3, none⟩), .pointer (some ⟨g8, 4, none⟩), .pointer (some ⟨g8, 5, none⟩), .pointer (some ⟨g8, 6, none⟩), .pointer (some ⟨g8, 7, none⟩), .pointer (some ⟨g8, 8, none⟩), .pointer (some ⟨g8, 9, none⟩), .pointer (some ⟨g8, 10, none⟩), .pointer (some ⟨g8, 11, none⟩)]) Tryz.runUnderlying53 Tryz.sizeOf52 Tryz.isAgg52 rfl rfl (by decide) (by decide) rfl) rfl ?_
   refine O.p (Pu.assign rfl) rfl ?_
   refine O.p (Pu.assign rfl) rfl ?_
   refine O.nil ?_
   refine J.region ?_
   refine O.p (Pu.move rfl) rfl ?_
   refine O.p (Pu.move rfl) rfl ?_
   refine O.p (Pu.move rfl) rfl ?_
   have he18 : ([y0, y1, y2, y3, y4, y5, y6, y7, y8, y9, y10, y11])[7]? = some y7 := rfl
   refine O.q (Qt.idxM Tryz.runUnderlying34 Tryz.sizeOf3 rfl (Src.row 0 rfl) rfl (by first | omega | decide | (simp; done)) (by first | omega | decide | (simp; done))) rfl ?_
   refine O.q (Qt.ld rfl (Cel.eltM (Src.row 0 rfl) he18) (o := (voff V3 + 7 * 1)) (off := 0) (by omega) (Cut.one Tryz.isAgg3 rfl)) rfl ?_
   refine O.p (Pu.nilCheck rfl) rfl ?_
   refine O.l0 (Lo.store 1 (vs := [.int .i64 y7]) [.int .i64 y0, .int .i64 y1, .int .i64 y2, .int .i64 y3, .int .i64 y4, .int .i64 y5, .int .i64 y6, .int .i64 y7, .int .i64 0, .int .i64 0, .int .i64 0, .int .i64 0] rfl rfl rfl (by exact Tryz.sizeOf3) rfl rfl rfl rfl rfl) ?_
   rintro _ _ rfl
   refine O.nil ?_
   refine J.blk ?_
   refine J.region ?_
   refine O.p (Pu.add' rfl rfl (by first | omega | (simp only [List.length_append, List.length_cons, List.length_nil, List.length_set]; omega))) rfl ?_
   refine O.p (Pu.move rfl) rfl ?_
   refine O.nil ?_
   exact J.lp 8 (show 8 ≤ 12 from (by omega)) (show 12 - 8 < 12 - 7 from (by first | omega | decide | (simp; done))) ⟨rfl, rfl, rfl, rfl, rfl, (congrArg (fun z => some (Value.int .i64 z)) (by first | rfl | omega : (7 + 1 : Int) = (8 : Int))), trivial⟩ [0, 1, 2] (by decide) rfl
  ·
   show J _ _ [(2, .pointer (some ⟨g1, 0, none⟩)), (3, .int .i64 0), (4, V3), (6, .pointer (some ⟨g8, 0, none⟩)), (18, .agg #[.pointer (some ⟨g8, 0, none⟩), .pointer (some ⟨g8, 1, none⟩), .pointer (some ⟨g8, 2, none⟩), .pointer (some ⟨g8, 3, none⟩), .pointer (some ⟨g8, 4, none⟩), .pointer (some ⟨g8, 5, none⟩), .pointer (some ⟨g8, 6, none⟩), .pointer (some ⟨g8, 7, none⟩), .pointer (some ⟨g8, 8, none⟩), .pointer (some ⟨g8, 9, none⟩), .pointer (some ⟨g8, 10, none⟩), .pointer (some ⟨g8, 11, none⟩)]), (19, .int .i64 8)] [row V3 3 1 (([y0, y1, y2, y3, y4, y5, y6, y7, y8, y9, y10, y11]).map encZ), var g8 [.int .i64 y0, .int .i64 y1, .int .i64 y2, .int .i64 y3, .int .i64 y4, .int .i64 y5, .int .i64 y6, .int .i64 y7, .int .i64 0, .int .i64 0, .int .i64 0, .int .i64 0] 23, var g1 [.int .i64 0, .int .i64 0, .int .i64 0, .int .i64 0, .int .i64 0, .int .i64 0, .int .i64 0, .int .i64 0, .int .i64 0, .int .i64 0, .int .i64 0, .int .i64 0] 23]
   refine J.seq ?_
   refine J.region ?_
   refine O.p (Pu.lss rfl rfl) rfl ?_
   refine O.nil ?_
   refine J.seq ?_
   refine J.condT rfl rfl ?_
   refine J.skip ?_
   refine J.seq ?_
   refine J.block ?_
   refine J.seq ?_
   refine J.region ?_
   refine O.p (Pu.move rfl) rfl ?_
   refine O.p (Pu.indexK1 (cs := [.pointer (some ⟨g8, 0, none⟩), .pointer (some ⟨g8, 1, none⟩), .pointer (some ⟨g8, 2, none⟩), .pointer (some ⟨g8, 3, none⟩), .pointer (some ⟨g8, 4, none⟩), .pointer (some ⟨g8, 5, none⟩), .pointer (some ⟨g8, 6, none⟩), .pointer (some ⟨g8, 7, none⟩), .pointer (some ⟨g8, 8, none⟩), .pointer (some ⟨g8, 9, none⟩), .pointer (some ⟨g8, 10, none⟩), .pointer (some ⟨g8, 11, none⟩)]) Tryz.runUnderlying53 Tryz.sizeOf52 Tryz.isAgg52 rfl rfl (by decide) (by decide) rfl) rfl ?_
   refine O.p (Pu.assign rfl) rfl ?_
   refine O.p (Pu.assign rfl) rfl ?_
   refine O.nil ?_
   refine J.region ?_
   refine O.p (Pu.move rfl) rfl ?_
   refine O.p (Pu.move rfl) rfl ?_
   refine O.p (Pu.move rfl) rfl ?_
   have he19 : ([y0, y1, y2, y3, y4, y5, y6, y7, y8, y9, y10, y11])[8]? = some y8 := rfl
   refine O.q (Qt.idxM Tryz.runUnderlying34 Tryz.sizeOf3 rfl (Src.row 0 rfl) rfl (by first | omega | decide | (simp; done)) (by first | omega | decide | (simp; done))) rfl ?_
   refine O.q (Qt.ld rfl (Cel.eltM (Src.row 0 rfl) he19) (o := (voff V3 + 8 * 1)) (off := 0) (by omega) (Cut.one Tryz.isAgg3 rfl)) rfl ?_
   refine O.p (Pu.nilCheck rfl) rfl ?_
   refine O.l0 (Lo.store 1 (vs := [.int .i64 y8]) [.int .i64 y0, .int .i64 y1, .int .i64 y2, .int .i64 y3, .int .i64 y4, .int .i64 y5, .int .i64 y6, .int .i64 y7, .int .i64 y8, .int .i64 0, .int .i64 0, .int .i64 0] rfl rfl rfl (by exact Tryz.sizeOf3) rfl rfl rfl rfl rfl) ?_
   rintro _ _ rfl
   refine O.nil ?_
   refine J.blk ?_
   refine J.region ?_
   refine O.p (Pu.add' rfl rfl (by first | omega | (simp only [List.length_append, List.length_cons, List.length_nil, List.length_set]; omega))) rfl ?_
   refine O.p (Pu.move rfl) rfl ?_
   refine O.nil ?_
   exact J.lp 9 (show 9 ≤ 12 from (by omega)) (show 12 - 9 < 12 - 8 from (by first | omega | decide | (simp; done))) ⟨rfl, rfl, rfl, rfl, rfl, (congrArg (fun z => some (Value.int .i64 z)) (by first | rfl | omega : (8 + 1 : Int) = (9 : Int))), trivial⟩ [0, 1, 2] (by decide) rfl
  ·
   show J _ _ [(2, .pointer (some ⟨g1, 0, none⟩)), (3, .int .i64 0), (4, V3), (6, .pointer (some ⟨g8, 0, none⟩)), (18, .agg #[.pointer (some ⟨g8, 0, none⟩), .pointer (some ⟨g8, 1, none⟩), .pointer (some ⟨g8, 2, none⟩), .pointer (some ⟨g8, 3, none⟩), .pointer (some ⟨g8, 4, none⟩), .pointer (some ⟨g8, 5, none⟩), .pointer (some ⟨g8, 6, none⟩), .pointer (some ⟨g8, 7, none⟩), .pointer (some ⟨g8, 8, none⟩), .pointer (some ⟨g8, 9, none⟩), .pointer (some ⟨g8, 10, none⟩), .pointer (some ⟨g8, 11, none⟩)]), (19, .int .i64 9)] [row V3 3 1 (([y0, y1, y2, y3, y4, y5, y6, y7, y8, y9, y10, y11]).map encZ), var g8 [.int .i64 y0, .int .i64 y1, .int .i64 y2, .int .i64 y3, .int .i64 y4, .int .i64 y5, .int .i64 y6, .int .i64 y7, .int .i64 y8, .int .i64 0, .int .i64 0, .int .i64 0] 23, var g1 [.int .i64 0, .int .i64 0, .int .i64 0, .int .i64 0, .int .i64 0, .int .i64 0, .int .i64 0, .int .i64 0, .int .i64 0, .int .i64 0, .int .i64 0, .int .i64 0] 23]
   refine J.seq ?_
   refine J.region ?_
   refine O.p (Pu.lss rfl rfl) rfl ?_
   refine O.nil ?_
   refine J.seq ?_
   refine J.condT rfl rfl ?_
   refine J.skip ?_
   refine J.seq ?_
   refine J.block ?_
   refine J.seq ?_
   refine J.region ?_
   refine O.p (Pu.move rfl) rfl ?_
   refine O.p (Pu.indexK1 (cs := [.pointer (some ⟨g8, 0, none⟩), .pointer (some ⟨g8, 1, none⟩), .pointer (some ⟨g8, 2, none⟩), .pointer (some ⟨g8, 3, none⟩), .pointer (some ⟨g8, 4, none⟩), .pointer (some ⟨g8, 5, none⟩), .pointer (some ⟨g8, 6, none⟩), .pointer (some ⟨g8, 7, none⟩), .pointer (some ⟨g8, 8, none⟩), .pointer (some ⟨g8, 9, none⟩), .pointer (some ⟨g8, 10, none⟩), .pointer (some ⟨g8, 11, none⟩)]) Tryz.runUnderlying53 Tryz.sizeOf52 Tryz.isAgg52 rfl rfl (by decide) (by decide) rfl) rfl ?_
   refine O.p (Pu.assign rfl) rfl ?_
   refine O.p (Pu.assign rfl) rfl ?_
   refine O.nil ?_
   refine J.region ?_
   refine O.p (Pu.move rfl) rfl ?_
   refine O.p (Pu.move rfl) rfl ?_
   refine O.p (Pu.move rfl) rfl ?_
   have he20 : ([y0, y1, y2, y3, y4, y5, y6, y7, y8, y9, y10, y11])[9]? = some y9 := rfl
   refine O.q (Qt.idxM Tryz.runUnderlying34 Tryz.sizeOf3 rfl (Src.row 0 rfl) rfl (by first | omega | decide | (simp; done)) (by first | omega | decide | (simp; done))) rfl ?_
   refine O.q (Qt.ld rfl (Cel.eltM (Src.row 0 rfl) he20) (o := (voff V3 + 9 * 1)) (off := 0) (by omega) (Cut.one Tryz.isAgg3 rfl)) rfl ?_
   refine O.p (Pu.nilCheck rfl) rfl ?_
   refine O.l0 (Lo.store 1 (vs := [.int .i64 y9]) [.int .i64 y0, .int .i64 y1, .int .i64 y2, .int .i64 y3, .int .i64 y4, .int .i64 y5, .int .i64 y6, .int .i64 y7, .int .i64 y8, .int .i64 y9, .int .i64 0, .int .i64 0] rfl rfl rfl (by exact Tryz.sizeOf3) rfl rfl rfl rfl rfl) ?_
   rintro _ _ rfl
   refine O.nil ?_
   refine J.blk ?_
   refine J.region ?_
   refine O.p (Pu.add' rfl rfl (by first | omega | (simp only [List.length_append, List.length_cons, List.length_nil, List.length_set]; omega))) rfl ?_
   refine O.p (Pu.move rfl) rfl ?_
   refine O.nil ?_
   exact J.lp 10 (show 10 ≤ 12 from (by omega)) (show 12 - 10 < 12 - 9 from (by first | omega | decide | (simp; done))) ⟨rfl, rfl, rfl, rfl, rfl, (congrArg (fun z => some (Value.int .i64 z)) (by first | rfl | omega : (9 + 1 : Int) = (10 : Int))), trivial⟩ [0, 1, 2] (by decide) rfl
  ·
   show J _ _ [(2, .pointer (some ⟨g1, 0, none⟩)), (3, .int .i64 0), (4, V3), (6, .pointer (some ⟨g8, 0, none⟩)), (18, .agg #[.pointer (some ⟨g8, 0, none⟩), .pointer (some ⟨g8, 1, none⟩), .pointer (some ⟨g8, 2, none⟩), .pointer (some ⟨g8, 3, none⟩), .pointer (some ⟨g8, 4, none⟩), .pointer (some ⟨g8, 5, none⟩), .pointer (some ⟨g8, 6, none⟩), .pointer (some ⟨g8, 7, none⟩), .pointer (some ⟨g8, 8, none⟩), .pointer (some ⟨g8, 9, none⟩), .pointer (some ⟨g8, 10, none⟩), .pointer (some ⟨g8, 11, none⟩)]), (19, .int .i64 10)] [row V3 3 1 (([y0, y1, y2, y3, y4, y5, y6, y7, y8, y9, y10, y11]).map encZ), var g8 [.int .i64 y0, .int .i64 y1, .int .i64 y2, .int .i64 y3, .int .i64 y4, .int .i64 y5, .int .i64 y6, .int .i64 y7, .int .i64 y8, .int .i64 y9, .int .i64 0, .int .i64 0] 23, var g1 [.int .i64 0, .int .i64 0, .int .i64 0, .int .i64 0, .int .i64 0, .int .i64 0, .int .i64 0, .int .i64 0, .int .i64 0, .int .i64 0, .int .i64 0, .int .i64 0] 23]
   refine J.seq ?_
   refine J.region ?_
   refine O.p (Pu.lss rfl rfl) rfl ?_
   refine O.nil ?_
   refine J.seq ?_
   refine J.condT rfl rfl ?_
   refine J.skip ?_
   refine J.seq ?_
   refine J.block ?_
   refine J.seq ?_
   refine J.region ?_
   refine O.p (Pu.move rfl) rfl ?_
   refine O.p (Pu.indexK1 (cs := [.pointer (some ⟨g8, 0, none⟩), .pointer (some ⟨g8, 1, none⟩), .pointer (some ⟨g8, 2, none⟩), .pointer (some ⟨g8, 3, none⟩), .pointer (some ⟨g8, 4, none⟩), .pointer (some ⟨g8, 5, none⟩), .pointer (some ⟨g8, 6, none⟩), .pointer (some ⟨g8, 7, none⟩), .pointer (some ⟨g8, 8, none⟩), .pointer (some ⟨g8, 9, none⟩), .pointer (some ⟨g8, 10, none⟩), .pointer (some ⟨g8, 11, none⟩)]) Tryz.runUnderlying53 Tryz.sizeOf52 Tryz.isAgg52 rfl rfl (by decide) (by decide) rfl) rfl ?_
   refine O.p (Pu.assign rfl) rfl ?_
   refine O.p (Pu.assign rfl) rfl ?_
   refine O.nil ?_
   refine J.region ?_
   refine O.p (Pu.move rfl) rfl ?_
   refine O.p (Pu.move rfl) rfl ?_
   refine O.p (Pu.move rfl) rfl ?_
   have he21 : ([y0, y1, y2, y3, y4, y5, y6, y7, y8, y9, y10, y11])[10]? = some y10 := rfl
   refine O.q (Qt.idxM Tryz.runUnderlying34 Tryz.sizeOf3 rfl (Src.row 0 rfl) rfl (by first | omega | decide | (simp; done)) (by first | omega | decide | (simp; done))) rfl ?_
   refine O.q (Qt.ld rfl (Cel.eltM (Src.row 0 rfl) he21) (o := (voff V3 + 10 * 1)) (off := 0) (by omega) (Cut.one Tryz.isAgg3 rfl)) rfl ?_
   refine O.p (Pu.nilCheck rfl) rfl ?_
   refine O.l0 (Lo.store 1 (vs := [.int .i64 y10]) [.int .i64 y0, .int .i64 y1, .int .i64 y2, .int .i64 y3, .int .i64 y4, .int .i64 y5, .int .i64 y6, .int .i64 y7, .int .i64 y8, .int .i64 y9, .int .i64 y10, .int .i64 0] rfl rfl rfl (by exact Tryz.sizeOf3) rfl rfl rfl rfl rfl) ?_
   rintro _ _ rfl
   refine O.nil ?_
   refine J.blk ?_
   refine J.region ?_
   refine O.p (Pu.add' rfl rfl (by first | omega | (simp only [List.length_append, List.length_cons, List.length_nil, List.length_set]; omega))) rfl ?_
   refine O.p (Pu.move rfl) rfl ?_
   refine O.nil ?_
   exact J.lp 11 (show 11 ≤ 12 from (by omega)) (show 12 - 11 < 12 - 10 from (by first | omega | decide | (simp; done))) ⟨rfl, rfl, rfl, rfl, rfl, (congrArg (fun z => some (Value.int .i64 z)) (by first | rfl | omega : (10 + 1 : Int) = (11 : Int))), trivial⟩ [0, 1, 2] (by decide) rfl
  ·
   show J _ _ [(2, .pointer (some ⟨g1, 0, none⟩)), (3, .int .i64 0), (4, V3), (6, .pointer (some ⟨g8, 0, none⟩)), (18, .agg #[.pointer (some ⟨g8, 0, none⟩), .pointer (some ⟨g8, 1, none⟩), .pointer (some ⟨g8, 2, none⟩), .pointer (some ⟨g8, 3, none⟩), .pointer (some ⟨g8, 4, none⟩), .pointer (some ⟨g8, 5, none⟩), .pointer (some ⟨g8, 6, none⟩), .pointer (some ⟨g8, 7, none⟩), .pointer (some ⟨g8, 8, none⟩), .pointer (some ⟨g8, 9, none⟩), .pointer (some ⟨g8, 10, none⟩), .pointer (some ⟨g8, 11, none⟩)]), (19, .int .i64 11)] [row V3 3 1 (([y0, y1, y2, y3, y4, y5, y6, y7, y8, y9, y10, y11]).map encZ), var g8 [.int .i64 y0, .int .i64 y1, .int .i64 y2, .int .i64 y3, .int .i64 y4, .int .i64 y5, .int .i64 y6, .int .i64 y7, .int .i64 y8, .int .i64 y9, .int .i64 y10, .int .i64 0] 23, var g1 [.int .i64 0, .int .i64 0, .int .i64 0, .int .i64 0, .int .i64 0, .int .i64 0, .int .i64 0, .int .i64 0, .int .i64 0, .int .i64 0, .int .i64 0, .int .i64 0] 23]
   refine J.seq ?_
   refine J.region ?_
   refine O.p (Pu.lss rfl rfl) rfl ?_
   refine O.nil ?_
   refine J.seq ?_
   refine J.condT rfl rfl ?_
   refine J.skip ?_
   refine J.seq ?_
   refine J.block ?_
   refine J.seq ?_
   refine J.region ?_
   refine O.p (Pu.move rfl) rfl ?_
   refine O.p (Pu.indexK1 (cs := [.pointer (some ⟨g8, 0, none⟩), .pointer (some ⟨g8, 1, none⟩), .pointer (some ⟨g8, 2, none⟩), .pointer (some ⟨g8, 3, none⟩), .pointer (some ⟨g8, 4, none⟩), .pointer (some ⟨g8, 5, none⟩), .pointer (some ⟨g8, 6, none⟩), .pointer (some ⟨g8, 7, none⟩), .pointer (some ⟨g8, 8, none⟩), .pointer (some ⟨g8, 9, none⟩), .pointer (some ⟨g8, 10, none⟩), .pointer (some ⟨g8, 11, none⟩)]) Tryz.runUnderlying53 Tryz.sizeOf52 Tryz.isAgg52 rfl rfl (by decide) (by decide) rfl) rfl ?_
   refine O.p (Pu.assign rfl) rfl ?_
   refine O.p (Pu.assign rfl) rfl ?_
   refine O.nil ?_
   refine J.region ?_
   refine O.p (Pu.move rfl) rfl ?_
   refine O.p (Pu.move rfl) rfl ?_
   refine O.p (Pu.move rfl) rfl ?_
   have he22 : ([y0, y1, y2, y3, y4, y5, y6, y7, y8, y9, y10, y11])[11]? = some y11 := rfl
   refine O.q (Qt.idxM Tryz.runUnderlying34 Tryz.sizeOf3 rfl (Src.row 0 rfl) rfl (by first | omega | decide | (simp; done)) (by first | omega | decide | (simp; done))) rfl ?_
   refine O.q (Qt.ld rfl (Cel.eltM (Src.row 0 rfl) he22) (o := (voff V3 + 11 * 1)) (off := 0) (by omega) (Cut.one Tryz.isAgg3 rfl)) rfl ?_
   refine O.p (Pu.nilCheck rfl) rfl ?_
   refine O.l0 (Lo.store 1 (vs := [.int .i64 y11]) [.int .i64 y0, .int .i64 y1, .int .i64 y2, .int .i64 y3, .int .i64 y4, .int .i64 y5, .int .i64 y6, .int .i64 y7, .int .i64 y8, .int .i64 y9, .int .i64 y10, .int .i64 y11] rfl rfl rfl (by exact Tryz.sizeOf3) rfl rfl rfl rfl rfl) ?_
   rintro _ _ rfl
   refine O.nil ?_
   refine J.blk ?_
   refine J.region ?_
   refine O.p (Pu.add' rfl rfl (by first | omega | (simp only [List.length_append, List.length_cons, List.length_nil, List.length_set]; omega))) rfl ?_
   refine O.p (Pu.move rfl) rfl ?_
   refine O.nil ?_
   exact J.lp 12 (show 12 ≤ 12 from (by omega)) (show 12 - 12 < 12 - 11 from (by first | omega | decide | (simp; done))) ⟨rfl, rfl, rfl, rfl, rfl, (congrArg (fun z => some (Value.int .i64 z)) (by first | rfl | omega : (11 + 1 : Int) = (12 : Int))), trivial⟩ [0, 1, 2] (by decide) rfl
  ·
   show J _ _ [(2, .pointer (some ⟨g1, 0, none⟩)), (3, .int .i64 0), (4, V3), (6, .pointer (some ⟨g8, 0, none⟩)), (18, .agg #[.pointer (some ⟨g8, 0, none⟩), .pointer (some ⟨g8, 1, none⟩), .pointer (some ⟨g8, 2, none⟩), .pointer (some ⟨g8, 3, none⟩), .pointer (some ⟨g8, 4, none⟩), .pointer (some ⟨g8, 5, none⟩), .pointer (some ⟨g8, 6, none⟩), .pointer (some ⟨g8, 7, none⟩), .pointer (some ⟨g8, 8, none⟩), .pointer (some ⟨g8, 9, none⟩), .pointer (some ⟨g8, 10, none⟩), .pointer (some ⟨g8, 11, none⟩)]), (19, .int .i64 12)] [row V3 3 1 (([y0, y1, y2, y3, y4, y5, y6, y7, y8, y9, y10, y11]).map encZ), var g8 [.int .i64 y0, .int .i64 y1, .int .i64 y2, .int .i64 y3, .int .i64 y4, .int .i64 y5, .int .i64 y6, .int .i64 y7, .int .i64 y8, .int .i64 y9, .int .i64 y10, .int .i64 y11] 23, var g1 [.int .i64 0, .int .i64 0, .int .i64 0, .int .i64 0, .int .i64 0, .int .i64 0, .int .i64 0, .int .i64 0, .int .i64 0, .int .i64 0, .int .i64 0, .int .i64 0] 23]
   refine J.seq ?_
   refine J.region ?_
   refine O.p (Pu.lss rfl rfl) rfl ?_
   refine O.nil ?_
   refine J.seq ?_
   refine J.condF rfl rfl ?_
   refine J.exit _ rfl ?_
   refine J.seq ?_
   refine J.region ?_
   refine O.q (Qt.ld rfl (Cel.var 1 rfl) (o := 0) (off := 0) rfl (Cut.agg [.int .i64 y0, .int .i64 y1, .int .i64 y2, .int .i64 y3, .int .i64 y4, .int .i64 y5, .int .i64 y6, .int .i64 y7, .int .i64 y8, .int .i64 y9, .int .i64 y10, .int .i64 y11] Tryz.isAgg23 Tryz.sizeOf23 rfl rfl)) rfl ?_
   refine O.l0 (Lo.store 2 (vs := [.int .i64 y0, .int .i64 y1, .int .i64 y2, .int .i64 y3, .int .i64 y4, .int .i64 y5, .int .i64 y6, .int .i64 y7, .int .i64 y8, .int .i64 y9, .int .i64 y10, .int .i64 y11]) [.int .i64 y0, .int .i64 y1, .int .i64 y2, .int .i64 y3, .int .i64 y4, .int .i64 y5, .int .i64 y6, .int .i64 y7, .int .i64 y8, .int .i64 y9, .int .i64 y10, .int .i64 y11] rfl rfl rfl (by exact Tryz.sizeOf23) rfl rfl rfl rfl rfl) ?_
   rintro _ _ rfl
   refine O.p (Pu.assign rfl) rfl ?_
   refine O.nil ?_
   exact J.ret (Fin.ret (rs := [.cell 2 23, .tmp 3]) rfl [_, _] ⟨⟨_, _, 0, 0, _, rfl, (Cel.var 2 rfl), rfl, (Cut.agg [.int .i64 y0, .int .i64 y1, .int .i64 y2, .int .i64 y3, .int .i64 y4, .int .i64 y5, .int .i64 y6, .int .i64 y7, .int .i64 y8, .int .i64 y9, .int .i64 y10, .int .i64 y11] Tryz.isAgg23 Tryz.sizeOf23 rfl rfl)⟩, rfl, trivial⟩ [] (by decide) [] rfl ⟨(by rw [Rp.parse_yes ‹_›, hy]; rfl), rfl⟩)

set_option maxRecDepth 100000 in
set_option maxHeartbeats 1000000 in
theorem rp_Right (r : Rep) : Tri Tryz.prog 12 #[.agg #[.int .i64 r.d0, .int .i64 r.d1, .int .i64 r.d2, .int .i64 r.d3, .int .i64 r.d4, .int .i64 r.d5, .int .i64 r.d6, .int .i64 r.d7, .int .i64 r.d8, .int .i64 r.d9, .int .i64 r.d10, .int .i64 r.d11]] [] [] (fun v L' => v = .bool (Rp.right r) ∧ L' = []) := by
 refine Tri.enter (args := [.agg #[.int .i64 r.d0, .int .i64 r.d1, .int .i64 r.d2, .int .i64 r.d3, .int .i64 r.d4, .int .i64 r.d5, .int .i64 r.d6, .int .i64 r.d7, .int .i64 r.d8, .int .i64 r.d9, .int .i64 r.d10, .int .i64 r.d11]]) (body := _) 60 Tryz.func12 rfl Tryz.ntmps12 rfl ?_
 intro w0
 refine J.seq ?_
 refine J.region ?_
 refine O.l (Lo.box [.int .i64 r.d0, .int .i64 r.d1, .int .i64 r.d2, .int .i64 r.d3, .int .i64 r.d4, .int .i64 r.d5, .int .i64 r.d6, .int .i64 r.d7, .int .i64 r.d8, .int .i64 r.d9, .int .i64 r.d10, .int .i64 r.d11] rfl rfl) rfl ?_
 rintro _ _ ⟨g1, rfl, rfl⟩
 refine O.p (Pu.assign rfl) rfl ?_
 refine O.nil ?_
 refine J.seq ?_
 refine J.region ?_
 refine O.l (Lo.call [.pointer (some ⟨g1, 0, none⟩)] (by exact Tryz.call22) rfl (rp_fields g1) [] [0] (by decide) rfl [var g1 [.int .i64 r.d0, .int .i64 r.d1, .int .i64 r.d2, .int .i64 r.d3, .int .i64 r.d4, .int .i64 r.d5, .int .i64 r.d6, .int .i64 r.d7, .int .i64 r.d8, .int .i64 r.d9, .int .i64 r.d10, .int .i64 r.d11] 23] rfl RoOk.nil) rfl ?_
 rintro _ _ ⟨_, ⟨rfl, rfl⟩, rfl⟩
 refine O.l (Lo.alloc [Value.pointer none, Value.pointer none, Value.pointer none, Value.pointer none, Value.pointer none, Value.pointer none, Value.pointer none, Value.pointer none, Value.pointer none, Value.pointer none, Value.pointer none, Value.pointer none] (by exact Tryz.zeroValue53) rfl) rfl ?_
 rintro _ _ ⟨g3, rfl, rfl⟩
 refine O.l0 (Lo.store 0 (vs := [.pointer (some ⟨g1, 0, none⟩), .pointer (some ⟨g1, 1, none⟩), .pointer (some ⟨g1, 2, none⟩), .pointer (some ⟨g1, 3, none⟩), .pointer (some ⟨g1, 4, none⟩), .pointer (some ⟨g1, 5, none⟩), .pointer (some ⟨g1, 6, none⟩), .pointer (some ⟨g1, 7, none⟩), .pointer (some ⟨g1, 8, none⟩), .pointer (some ⟨g1, 9, none⟩), .pointer (some ⟨g1, 10, none⟩), .pointer (some ⟨g1, 11, none⟩)]) [.pointer (some ⟨g1, 0, none⟩), .pointer (some ⟨g1, 1, none⟩), .pointer (some ⟨g1, 2, none⟩), .pointer (some ⟨g1, 3, none⟩), .pointer (some ⟨g1, 4, none⟩), .pointer (some ⟨g1, 5, none⟩), .pointer (some ⟨g1, 6, none⟩), .pointer (some ⟨g1, 7, none⟩), .pointer (some ⟨g1, 8, none⟩), .pointer (some ⟨g1, 9, none⟩), .pointer (some ⟨g1, 10, none⟩), .pointer (some ⟨g1, 11, none⟩)] rfl rfl rfl (by exact Tryz.sizeOf53) rfl rfl rfl rfl rfl) ?_
 rintro _ _ rfl
 refine O.nil ?_
 refine J.seq ?_
 refine J.seq ?_
 refine J.region ?_
 refine O.p (Pu.move rfl) rfl ?_
 refine O.nil ?_
 refine J.block ?_
 refine J.loop (X := Nat) (fun ξ => ξ ≤ 12 ∧ (((Rp.nums r).take ξ).all fun n => decide (0 ≤ n)) = true) (fun ξ => [(1, .pointer (some ⟨g1, 0, none⟩)), (3, .pointer (some ⟨g3, 0, none⟩)), (7, .int .i64 (ξ : Int))]) (fun ξ => [var g1 [.int .i64 r.d0, .int .i64 r.d1, .int .i64 r.d2, .int .i64 r.d3, .int .i64 r.d4, .int .i64 r.d5, .int .i64 r.d6, .int .i64 r.d7, .int .i64 r.d8, .int .i64 r.d9, .int .i64 r.d10, .int .i64 r.d11] 23, var g3 [.pointer (some ⟨g1, 0, none⟩), .pointer (some ⟨g1, 1, none⟩), .pointer (some ⟨g1, 2, none⟩), .pointer (some ⟨g1, 3, none⟩), .pointer (some ⟨g1, 4, none⟩), .pointer (some ⟨g1, 5, none⟩), .pointer (some ⟨g1, 6, none⟩), .pointer (some ⟨g1, 7, none⟩), .pointer (some ⟨g1, 8, none⟩), .pointer (some ⟨g1, 9, none⟩), .pointer (some ⟨g1, 10, none⟩), .pointer (some ⟨g1, 11, none⟩)] 53]) (fun ξ => 12 - ξ) 0 (show 0 ≤ 12 ∧ (((Rp.nums r).take 0).all fun n => decide (0 ≤ n)) = true from ⟨by omega, rfl⟩) ⟨rfl, rfl, (congrArg (fun z => some (Value.int .i64 z)) (by first | rfl | omega : (0 : Int) = (0 : Int))), trivial⟩ [1, 0] (by decide) rfl ?_
 rintro k hq4
 obtain ⟨hk, hst⟩ : k ≤ 12 ∧ (((Rp.nums r).take k).all fun n => decide (0 ≤ n)) = true := hq4
 show J _ _ [(1, .pointer (some ⟨g1, 0, none⟩)), (3, .pointer (some ⟨g3, 0, none⟩)), (7, .int .i64 (k : Int))] [var g1 [.int .i64 r.d0, .int .i64 r.d1, .int .i64 r.d2, .int .i64 r.d3, .int .i64 r.d4, .int .i64 r.d5, .int .i64 r.d6, .int .i64 r.d7, .int .i64 r.d8, .int .i64 r.d9, .int .i64 r.d10, .int .i64 r.d11] 23, var g3 [.pointer (some ⟨g1, 0, none⟩), .pointer (some ⟨g1, 1, none⟩), .pointer (some ⟨g1, 2, none⟩), .pointer (some ⟨g1, 3, none⟩), .pointer (some ⟨g1, 4, none⟩), .pointer (some ⟨g1, 5, none⟩), .pointer (some ⟨g1, 6, none⟩), .pointer (some ⟨g1, 7, none⟩), .pointer (some ⟨g1, 8, none⟩), .pointer (some ⟨g1, 9, none⟩), .pointer (some ⟨g1, 10, none⟩), .pointer (some ⟨g1, 11, none⟩)] 53]
 obtain rfl | rfl | rfl | rfl | rfl | rfl | rfl | rfl | rfl | rfl | rfl | rfl | rfl : k = 0 ∨ k = 1 ∨ k = 2 ∨ k = 3 ∨ k = 4 ∨ k = 5 ∨ k = 6 ∨ k = 7 ∨ k = 8 ∨ k = 9 ∨ k = 10 ∨ k = 11 ∨ k = 12 := by omega
 ·
  show J _ _ [(1, .pointer (some ⟨g1, 0, none⟩)), (3, .pointer (some ⟨g3, 0, none⟩)), (7, .int .i64 0)] [var g1 [.int .i64 r.d0, .int .i64 r.d1, .int .i64 r.d2, .int .i64 r.d3, .int .i64 r.d4, .int .i64 r.d5, .int .i64 r.d6, .int .i64 r.d7, .int .i64 r.d8, .int .i64 r.d9, .int .i64 r.d10, .int .i64 r.d11] 23, var g3 [.pointer (some ⟨g1, 0, none⟩), .pointer (some ⟨g1, 1, none⟩), .pointer (some ⟨g1, 2, none⟩), .pointer (some ⟨g1, 3, none⟩), .pointer (some ⟨g1, 4, none⟩), .pointer (some ⟨g1, 5, none⟩), .pointer (some ⟨g1, 6, none⟩), .pointer (some ⟨g1, 7, none⟩), .pointer (some ⟨g1, 8, none⟩), .pointer (some ⟨g1, 9, none⟩), .pointer (some ⟨g1, 10, none⟩), .pointer (some ⟨g1, 11, none⟩)] 53]
  refine J.seq ?_
  refine J.region ?_
  refine O.p (Pu.lss rfl rfl) rfl ?_
  refine O.nil ?_
  refine J.seq ?_
  refine J.condT rfl rfl ?_
  refine J.skip ?_
  refine J.seq ?_
  refine J.block ?_
  refine J.seq ?_
  refine J.region ?_
  refine O.p (Pu.move rfl) rfl ?_
  refine O.p (Pu.assign rfl) rfl ?_
  refine O.nil ?_
  refine J.seq ?_
  refine J.region ?_
  refine O.p (Pu.move rfl) rfl ?_
  refine O.p (Pu.indexAddrK 0 Tryz.runUnderlying53 Tryz.sizeOf52 rfl rfl (by decide) (by decide) rfl) rfl ?_
  refine O.q (Qt.ld rfl (Cel.var 1 rfl) (o := 0) (off := 0) rfl (Cut.one Tryz.isAgg52 rfl)) rfl ?_
  refine O.p (Pu.nilCheck rfl) rfl ?_
  refine O.q (Qt.ld rfl (Cel.var 0 rfl) (o := 0) (off := 0) rfl (Cut.one Tryz.isAgg3 rfl)) rfl ?_
  refine O.p (Pu.lss rfl rfl) rfl ?_
  refine O.nil ?_
  refine J.cond rfl (fun h5 => ?_) (fun h5 => ?_)
  ·
   have p6 := of_decide_eq_true h5
   refine J.seq ?_
   refine J.region ?_
   refine O.p (Pu.assign rfl) rfl ?_
   refine O.nil ?_
   exact J.ret (Fin.ret (rs := [.tmp 2]) rfl [_] ⟨rfl, trivial⟩ [] (by decide) [] rfl ⟨(by rw [Rp.right_neg (r := r) (k := 0) rfl ‹_›]; rfl), rfl⟩)
  ·
   have p7 := of_decide_eq_false h5
   refine J.skip ?_
   refine J.blk ?_
   refine J.region ?_
   refine O.p (Pu.add' rfl rfl (by first | omega | (simp only [List.length_append, List.length_cons, List.length_nil, List.length_set]; omega))) rfl ?_
   refine O.p (Pu.move rfl) rfl ?_
   refine O.nil ?_
   exact J.lp 1 (show 1 ≤ 12 ∧ (((Rp.nums r).take 1).all fun n => decide (0 ≤ n)) = true from ⟨by omega, Rp.all_next hst rfl (decide_eq_true (by omega))⟩) (show 12 - 1 < 12 - 0 from (by first | omega | decide | (simp; done))) ⟨rfl, rfl, (congrArg (fun z => some (Value.int .i64 z)) (by first | rfl | omega : (0 + 1 : Int) = (1 : Int))), trivial⟩ [0, 1] (by decide) rfl
 ·
  show J _ _ [(1, .pointer (some ⟨g1, 0, none⟩)), (3, .pointer (some ⟨g3, 0, none⟩)), (7, .int .i64 1)] [var g1 [.int .i64 r.d0, .int .i64 r.d1, .int .i64 r.d2, .int .i64 r.d3, .int .i64 r.d4, .int .i64 r.d5, .int .i64 r.d6, .int .i64 r.d7, .int .i64 r.d8, .int .i64 r.d9, .int .i64 r.d10, .int .i64 r.d11] 23, var g3 [.pointer (some ⟨g1, 0, none⟩), .pointer (some ⟨g1, 1, none⟩), .pointer (some ⟨g1, 2, none⟩), .pointer (some ⟨g1, 3, none⟩), .pointer (some ⟨g1, 4, none⟩), .pointer (some ⟨g1, 5, none⟩), .pointer (some ⟨g1, 6, none⟩), .pointer (some ⟨g1, 7, none⟩), .pointer (some ⟨g1, 8, none⟩), .pointer (some ⟨g1, 9, none⟩), .pointer (some ⟨g1, 10, none⟩), .pointer (some ⟨g1, 11, none⟩)] 53]
  refine J.seq ?_
  refine J.region ?_
  refine O.p (Pu.lss rfl rfl) rfl ?_
  refine O.nil ?_
  refine J.seq ?_
  refine J.condT rfl rfl ?_
  refine J.skip ?_
  refine J.seq ?_
  refine J.block ?_
  refine J.seq ?_
  refine J.region ?_
  refine O.p (Pu.move rfl) rfl ?_
  refine O.p (Pu.assign rfl) rfl ?_
  refine O.nil ?_
  refine J.seq ?_
  refine J.region ?_
  refine O.p (Pu.move rfl) rfl ?_
  refine O.p (Pu.indexAddrK 1 Tryz.runUnderlying53 Tryz.sizeOf52 rfl rfl (by decide) (by decide) rfl) rfl ?_
  refine O.q (Qt.ld rfl (Cel.var 1 rfl) (o := 0) (off := 1) rfl (Cut.one Tryz.isAgg52 rfl)) rfl ?_
  refine O.p (Pu.nilCheck rfl) rfl ?_
  refine O.q (Qt.ld rfl (Cel.var 0 rfl) (o := 0) (off := 1) rfl (Cut.one Tryz.isAgg3 rfl)) rfl ?_
  refine O.p (Pu.lss rfl rfl) rfl ?_
  refine O.nil ?_
  refine J.cond rfl (fun h8 => ?_) (fun h8 => ?_)
  ·
   have p9 := of_decide_eq_true h8
   refine J.seq ?_
   refine J.region ?_
   refine O.p (Pu.assign rfl) rfl ?_
   refine O.nil ?_
   exact J.ret (Fin.ret (rs := [.tmp 2]) rfl [_] ⟨rfl, trivial⟩ [] (by decide) [] rfl ⟨(by rw [Rp.right_neg (r := r) (k := 1) rfl ‹_›]; rfl), rfl⟩)
  ·
   have p10 := of_decide_eq_false h8
   refine J.skip ?_
   refine J.blk ?_
   refine J.region ?_
   refine O.p (Pu.add' rfl rfl (by first | omega | (simp only [List.length_append, List.length_cons, List.length_nil, List.length_set]; omega))) rfl ?_
   refine O.p (Pu.move rfl) rfl ?_
   refine O.nil ?_
   exact J.lp 2 (show 2 ≤ 12 ∧ (((Rp.nums r).take 2).all fun n => decide (0 ≤ n)) = true from ⟨by omega, Rp.all_next hst rfl (decide_eq_true (by omega))⟩) (show 12 - 2 < 12 - 1 from (by first | omega | decide | (simp; done))) ⟨rfl, rfl, (congrArg (fun z => some (Value.int .i64 z)) (by first | rfl | omega : (1 + 1 : Int) = (2 : Int))), trivial⟩ [0, 1] (by decide) rfl
 ·
  show J _ _ [(1, .pointer (some ⟨g1, 0, none⟩)), (3, .pointer (some ⟨g3, 0, none⟩)), (7, .int .i64 2)] [var g1 [.int .i64 r.d0, .int .i64 r.d1, .int .i64 r.d2, .int .i64 r.d3, .int .i64 r.d4, .int .i64 r.d5, .int .i64 r.d6, .int .i64 r.d7, .int .i64 r.d8, .int .i64 r.d9, .int .i64 r.d10, .int .i64 r.d11] 23, var g3 [.pointer (some ⟨g1, 0, none⟩), .pointer (some ⟨g1, 1, none⟩), .pointer (some ⟨g1, 2, none⟩), .pointer (some ⟨g1, 3, none⟩), .pointer (some ⟨g1, 4, none⟩), .pointer (some ⟨g1, 5, none⟩), .pointer (some ⟨g1, 6, none⟩), .pointer (some ⟨g1, 7, none⟩), .pointer (some ⟨g1, 8, none⟩), .pointer (some ⟨g1, 9, none⟩), .pointer (some ⟨g1, 10, none⟩), .pointer (some ⟨g1, 11, none⟩)] 53]
  refine J.seq ?_
  refine J.region ?_
  refine O.p (Pu.lss rfl rfl) rfl ?_
  refine O.nil ?_
  refine J.seq ?_
  refine J.condT rfl rfl ?_
  refine J.skip ?_
  refine J.seq ?_
  refine J.block ?_
  refine J.seq ?_
  refine J.region ?_
  refine O.p (Pu.move rfl) rfl ?_
  refine O.p (Pu.assign rfl) rfl ?_
  refine O.nil ?_
  refine J.seq ?_
  refine J.region ?_
  refine O.p (Pu.move rfl) rfl ?_
  refine O.p (Pu.indexAddrK 2 Tryz.runUnderlying53 Tryz.sizeOf52 rfl rfl (by decide) (by decide) rfl) rfl ?_
  refine O.q (Qt.ld rfl (Cel.var 1 rfl) (o := 0) (off := 2) rfl (Cut.one Tryz.isAgg52 rfl)) rfl ?_
  refine O.p (Pu.nilCheck rfl) rfl ?_
  refine O.q (Qt.ld rfl (Cel.var 0 rfl) (o := 0) (off := 2) rfl (Cut.one Tryz.isAgg3 rfl)) rfl ?_
  refine O.p (Pu.lss rfl rfl) rfl ?_
  refine O.nil ?_
  refine J.cond rfl (fun h11 => ?_) (fun h11 => ?_)
  ·
   have p12 := of_decide_eq_true h11
   refine J.seq ?_
   refine J.region ?_
   refine O.p (Pu.assign rfl) rfl ?_
   refine O.nil ?_
   exact J.ret (Fin.ret (rs := [.tmp 2]) rfl [_] ⟨rfl, trivial⟩ [] (by decide) [] rfl ⟨(by rw [Rp.right_neg (r := r) (k := 2) rfl ‹_›]; rfl), rfl⟩)
  ·
   have p13 := of_decide_eq_false h11
   refine J.skip ?_
   refine J.blk ?_
   refine J.region ?_
   refine O.p (Pu.add' rfl rfl (by first | omega | (simp only [List.length_append, List.length_cons, List.length_nil, List.length_set]; omega))) rfl ?_
   refine O.p (Pu.move rfl) rfl ?_
   refine O.nil ?_
   exact J.lp 3 (show 3 ≤ 12 ∧ (((Rp.nums r).take 3).all fun n => decide (0 ≤ n)) = true from ⟨by omega, Rp.all_next hst rfl (decide_eq_true (by omega))⟩) (show 12 - 3 < 12 - 2 from (by first | omega | decide | (simp; done))) ⟨rfl, rfl, (congrArg (fun z => some (Value.int .i64 z)) (by first | rfl | omega : (2 + 1 : Int) = (3 : Int))), trivial⟩ [0, 1] (by decide) rfl
 ·
  show J _ _ [(1, .pointer (some ⟨g1, 0, none⟩)), (3, .pointer (some ⟨g3, 0, none⟩)), (7, .int .i64 3)] [var g1 [.int .i64 r.d0, .int .i64 r.d1, .int .i64 r.d2, .int .i64 r.d3, .int .i64 r.d4, .int .i64 r.d5, .int .i64 r.d6, .int .i64 r.d7, .int .i64 r.d8, .int .i64 r.d9, .int .i64 r.d10, .int .i64 r.d11] 23, var g3 [.pointer (some ⟨g1, 0, none⟩), .pointer (some ⟨g1, 1, none⟩), .pointer (some ⟨g1, 2, none⟩), .pointer (some ⟨g1, 3, none⟩), .pointer (some ⟨g1, 4, none⟩), .pointer (some ⟨g1, 5, none⟩), .pointer (some ⟨g1, 6, none⟩), .pointer (some ⟨g1, 7, none⟩), .pointer (some ⟨g1, 8, none⟩), .pointer (some ⟨g1, 9, none⟩), .pointer (some ⟨g1, 10, none⟩), .pointer (some ⟨g1, 11, none⟩)] 53]
  refine J.seq ?_
  refine J.region ?_
  refine O.p (Pu.lss rfl rfl) rfl ?_
  refine O.nil ?_
  refine J.seq ?_
  refine J.condT rfl rfl ?_
  refine J.skip ?_
  refine J.seq ?_
  refine J.block ?_
  refine J.seq ?_
  refine J.region ?_
  refine O.p (Pu.move rfl) rfl ?_
  refine O.p (Pu.assign rfl) rfl ?_
  refine O.nil ?_
  refine J.seq ?_
  refine J.region ?_
  refine O.p (Pu.move rfl) rfl ?_
  refine O.p (Pu.indexAddrK 3 Tryz.runUnderlying53 Tryz.sizeOf52 rfl rfl (by decide) (by decide) rfl) rfl ?_
  refine O.q (Qt.ld rfl (Cel.var 1 rfl) (o := 0) (off := 3) rfl (Cut.one Tryz.isAgg52 rfl)) rfl ?_
  refine O.p (Pu.nilCheck rfl) rfl ?_
  refine O.q (Qt.ld rfl (Cel.var 0 rfl) (o := 0) (off := 3) rfl (Cut.one Tryz.isAgg3 rfl)) rfl ?_
  refine O.p (Pu.lss rfl rfl) rfl ?_
  refine O.nil ?_
  refine J.cond rfl (fun h14 => ?_) (fun h14 => ?_)
  ·
   have p15 := of_decide_eq_true h14
   refine J.seq ?_
   refine J.region ?_
   refine O.p (Pu.assign rfl) rfl ?_
   refine O.nil ?_
   exact J.ret (Fin.ret (rs := [.tmp 2]) rfl [_] ⟨rfl, trivial⟩ [] (by decide) [] rfl ⟨(by rw [Rp.right_neg (r := r) (k := 3) rfl ‹_›]; rfl), rfl⟩)
  ·
   have p16 := of_decide_eq_false h14
   refine J.skip ?_
   refine J.blk ?_
   refine J.region ?_
   refine O.p (Pu.add' rfl rfl (by first | omega | (simp only [List.length_append, List.length_cons, List.length_nil, List.length_set]; omega))) rfl ?_
   refine O.p (Pu.move rfl) rfl ?_
   refine O.nil ?_
   exact J.lp 4 (show 4 ≤ 12 ∧ (((Rp.nums r).take 4).all fun n => decide (0 ≤ n)) = true from ⟨by omega, Rp.all_next hst rfl (decide_eq_true (by omega))⟩) (show 12 - 4 < 12 - 3 from (by first | omega | decide | (simp; done))) ⟨rfl, rfl, (congrArg (fun z => some (Value.int .i64 z)) (by first | rfl | omega : (3 + 1 : Int) = (4 : Int))), trivial⟩ [0, 1] (by decide) rfl
 ·
  show J _ _ [(1, .pointer (some ⟨g1, 0, none⟩)), (3, .pointer (some ⟨g3, 0, none⟩)), (7, .int .i64 4)] [var g1 [.int .i64 r.d0, .int .i64 r.d1, .int .i64 r.d2, .int .i64 r.d3, .int .i64 r.d4, .int .i64 r.d5, .int .i64 r.d6, .int .i64 r.d7, .int .i64 r.d8, .int .i64 r.d9, .int .i64 r.d10, .int .i64 r.d11] 23, var g3 [.pointer (some ⟨g1, 0, none⟩), .pointer (some ⟨g1, 1, none⟩), .pointer (some ⟨g1, 2, none⟩), .pointer (some ⟨g1, 3, none⟩), .pointer (some ⟨g1, 4, none⟩), .pointer (some ⟨g1, 5, none⟩), .pointer (some ⟨g1, 6, none⟩), .pointer (some ⟨g1, 7, none⟩), .pointer (some ⟨g1, 8, none⟩), .pointer (some ⟨g1, 9, none⟩), .pointer (some ⟨g1, 10, none⟩), .pointer (some ⟨g1, 11, none⟩)] 53]
  refine J.seq ?_
  refine J.region ?_
  refine O.p (Pu.lss rfl rfl) rfl ?_
  refine O.nil ?_
  refine J.seq ?_
  refine J.condT rfl rfl ?_
  refine J.skip ?_
  refine J.seq ?_
  refine J.block ?_
  refine J.seq ?_
  refine J.region ?_
  refine O.p (Pu.move rfl) rfl ?_
  refine O.p (Pu.assign rfl) rfl ?_
  refine O.nil ?_
  refine J.seq ?_
  refine J.region ?_
  refine O.p (Pu.move rfl) rfl ?_
  refine O.p (Pu.indexAddrK 4 Tryz.runUnderlying53 Tryz.sizeOf52 rfl rfl (by decide) (by decide) rfl) rfl ?_
  refine O.q (Qt.ld rfl (Cel.var 1 rfl) (o := 0) (off := 4) rfl (Cut.one Tryz.isAgg52 rfl)) rfl ?_
  refine O.p (Pu.nilCheck rfl) rfl ?_
  refine O.q (Qt.ld rfl (Cel.var 0 rfl) (o := 0) (off := 4) rfl (Cut.one Tryz.isAgg3 rfl)) rfl ?_
  refine O.p (Pu.lss rfl rfl) rfl ?_
  refine O.nil ?_
  refine J.cond rfl (fun h17 => ?_) (fun h17 => ?_)
  ·
   have p18 := of_decide_eq_true h17
   refine J.seq ?_
   refine J.region ?_
   refine O.p (Pu.assign rfl) rfl ?_
   refine O.nil ?_
   exact J.ret (Fin.ret (rs := [.tmp 2]) rfl [_] ⟨rfl, trivial⟩ [] (by decide) [] rfl ⟨(by rw [Rp.right_neg (r := r) (k := 4) rfl ‹_›]; rfl), rfl⟩)
  ·
   have p19 := of_decide_eq_false h17
   refine J.skip ?_
   refine J.blk ?_
   refine J.region ?_
   refine O.p (Pu.add' rfl rfl (by first | omega | (simp only [List.length_append, List.length_cons, List.length_nil, List.length_set]; omega))) rfl ?_
   refine O.p (Pu.move rfl) rfl ?_
   refine O.nil ?_
   exact J.lp 5 (show 5 ≤ 12 ∧ (((Rp.nums r).take 5).all fun n => decide (0 ≤ n)) = true from ⟨by omega, Rp.all_next hst rfl (decide_eq_true (by omega))⟩) (show 12 - 5 < 12 - 4 from (by first | omega | decide | (simp; done))) ⟨rfl, rfl, (congrArg (fun z => some (Value.int .i64 z)) (by first | rfl | omega : (4 + 1 : Int) = (5 : Int))), trivial⟩ [0, 1] (by decide) rfl
 ·
  show J _ _ [(1, .pointer (some ⟨g1, 0, none⟩)), (3, .pointer (some ⟨g3, 0, none⟩)), (7, .int .i64 5)] [var g1 [.int .i64 r.d0, .int .i64 r.d1, .int .i64 r.d2, .int .i64 r.d3, .int .i64 r.d4, .int .i64 r.d5, .int .i64 r.d6, .int .i64 r.d7, .int .i64 r.d8, .int .i64 r.d9, .int .i64 r.d10, .int .i64 r.d11] 23, var g3 [.pointer (some ⟨g1, 0, none⟩), .pointer (some ⟨g1, 1, none⟩), .pointer (some ⟨g1, 2, none⟩), .pointer (some ⟨g1, 3, none⟩), .pointer (some ⟨g1, 4, none⟩), .pointer (some ⟨g1, 5, none⟩), .pointer (some ⟨g1, 6, none⟩), .pointer (some ⟨g1, 7, none⟩), .pointer (some ⟨g1, 8, none⟩), .pointer (some ⟨g1, 9, none⟩), .pointer (some ⟨g1, 10, none⟩), .pointer (some ⟨g1, 11, none⟩)] 53]
  refine J.seq ?_
  refine J.region ?_
  refine O.p (Pu.lss rfl rfl) rfl ?_
  refine O.nil ?_
  refine J.seq ?_
  refine J.condT rfl rfl ?_
  refine J.skip ?_
  refine J.seq ?_
  refine J.block ?_
  refine J.seq ?_
  refine J.region ?_
  refine O.p (Pu.move rfl) rfl ?_
  refine O.p (Pu.assign rfl) rfl ?_
  refine O.nil ?_
  refine J.seq ?_
  refine J.region ?_
  refine O.p (Pu.move rfl) rfl ?_
  refine O.p (Pu.indexAddrK 5 Tryz.runUnderlying53 Tryz.sizeOf52 rfl rfl (by decide) (by decide) rfl) rfl ?_
  refine O.q (Qt.ld rfl (Cel.var 1 rfl) (o := 0) (off := 5) rfl (Cut.one Tryz.isAgg52 rfl)) rfl ?_
  refine O.p (Pu.nilCheck rfl) rfl ?_
  refine O.q (Qt.ld rfl (Cel.var 0 rfl) (o := 0) (off := 5) rfl (Cut.one Tryz.isAgg3 rfl)) rfl ?_
  refine O.p (Pu.lss rfl rfl) rfl ?_
  refine O.nil ?_
  refine J.cond rfl (fun h20 => ?_) (fun h20 => ?_)
  ·
   have p21 := of_decide_eq_true h20
   refine J.seq ?_
   refine J.region ?_
   refine O.p (Pu.assign rfl) rfl ?_
   refine O.nil ?_
   exact J.ret (Fin.ret (rs := [.tmp 2]) rfl [_] ⟨rfl, trivial⟩ [] (by decide) [] rfl ⟨(by rw [Rp.right_neg (r := r) (k := 5) rfl ‹_›]; rfl), rfl⟩)
  ·
   have p22 := of_decide_eq_false h20
   refine J.skip ?_
   refine J.blk ?_
   refine J.region ?_
   refine O.p (Pu.add' rfl rfl (by first | omega | (simp only [List.length_append, List.length_cons, List.length_nil, List.length_set]; omega))) rfl ?_
   refine O.p (Pu.move rfl) rfl ?_
   refine O.nil ?_
   exact J.lp 6 (show 6 ≤ 12 ∧ (((Rp.nums r).take 6).all fun n => decide (0 ≤ n)) = true from ⟨by omega, Rp.all_next hst rfl (decide_eq_true (by omega))⟩) (show 12 - 6 < 12 - 5 from (by first | omega | decide | (simp; done))) ⟨rfl, rfl, (congrArg (fun z => some (Value.int .i64 z)) (by first | rfl | omega : (5 + 1 : Int) = (6 : Int))), trivial⟩ [0, 1] (by decide) rfl
 ·
  show J _ _ [(1, .pointer (some ⟨g1, 0, none⟩)), (3, .pointer (some ⟨g3, 0, none⟩)), (7, .int .i64 6)] [var g1 [.int .i64 r.d0, .int .i64 r.d1, .int .i64 r.d2, .int .i64 r.d3, .int .i64 r.d4, .int .i64 r.d5, .int .i64 r.d6, .int .i64 r.d7, .int .i64 r.d8, .int .i64 r.d9, .int .i64 r.d10, .int .i64 r.d11] 23, var g3 [.pointer (some ⟨g1, 0, none⟩), .pointer (some ⟨g1, 1, none⟩), .pointer (some ⟨g1, 2, none⟩), .pointer (some ⟨g1, 3, none⟩), .pointer (some ⟨g1, 4, none⟩), .pointer (some ⟨g1, 5, none⟩), .pointer (some ⟨g1, 6, none⟩), .pointer (some ⟨g1, 7, none⟩), .pointer (some ⟨g1, 8, none⟩), .pointer (some ⟨g1, 9, none⟩), .pointer (some ⟨g1, 10, none⟩), .pointer (some ⟨g1, 11, none⟩)] 53]
  refine J.seq ?_
  refine J.region ?_
  refine O.p (Pu.lss rfl rfl) rfl ?_
  refine O.nil ?_
  refine J.seq ?_
  refine J.condT rfl rfl ?_
  refine J.skip ?_
  refine J.seq ?_
  refine J.block ?_
  refine J.seq ?_
  refine J.region ?_
  refine O.p (Pu.move rfl) rfl ?_
  refine O.p (Pu.assign rfl) rfl ?_
  refine O.nil ?_
  refine J.seq ?_
  refine J.region ?_
  refine O.p (Pu.move rfl) rfl ?_
  refine O.p (Pu.indexAddrK 6 Tryz.runUnderlying53 Tryz.sizeOf52 rfl rfl (by decide) (by decide) rfl) rfl ?_
  refine O.q (Qt.ld rfl (Cel.var 1 rfl) (o := 0) (off := 6) rfl (Cut.one Tryz.isAgg52 rfl)) rfl ?_
  refine O.p (Pu.nilCheck rfl) rfl ?_
  refine O.q (Qt.ld rfl (Cel.var 0 rfl) (o := 0) (off := 6) rfl (Cut.one Tryz.isAgg3 rfl)) rfl ?_
  refine O.p (Pu.lss rfl rfl) rfl ?_
  refine O.nil ?_
  refine J.cond rfl (fun h23 => ?_) (fun h23 => ?_)
  ·
   have p24 := of_decide_eq_true h23
   refine J.seq ?_
   refine J.region ?_
   refine O.p (Pu.assign rfl) rfl ?_
   refine O.nil ?_
   exact J.ret (Fin.ret (rs := [.tmp 2]) rfl [_] ⟨rfl, trivial⟩ [] (by decide) [] rfl ⟨(by rw [Rp.right_neg (r := r) (k := 6) rfl ‹_›]; rfl), rfl⟩)
  ·
   have p25 := of_decide_eq_false h23
   refine J.skip ?_
   refine J.blk ?_
   refine J.region ?_
   refine O.p (Pu.add' rfl rfl (by first | omega | (simp only [List.length_append, List.length_cons, List.length_nil, List.length_set]; omega))) rfl ?_
   refine O.p (Pu.move rfl) rfl ?_
   refine O.nil ?_
   exact J.lp 7 (show 7 ≤ 12 ∧ (((Rp.nums r).take 7).all fun n => decide (0 ≤ n)) = true from ⟨by omega, Rp.all_next hst rfl (decide_eq_true (by omega))⟩) (show 12 - 7 < 12 - 6 from (by first | omega | decide | (simp; done))) ⟨rfl, rfl, (congrArg (fun z => some (Value.int .i64 z)) (by first | rfl | omega : (6 + 1 : Int) = (7 : Int))), trivial⟩ [0, 1] (by decide) rfl
 ·
  show J _ _ [(1, .pointer (some ⟨g1, 0, none⟩)), (3, .pointer (some ⟨g3, 0, none⟩)), (7, .int .i64 7)] [var g1 [.int .i64 r.d0, .int .i64 r.d1, .int .i64 r.d2, .int .i64 r.d3, .int .i64 r.d4, .int .i64 r.d5, .int .i64 r.d6, .int .i64 r.d7, .int .i64 r.d8, .int .i64 r.d9, .int .i64 r.d10, .int .i64 r.d11] 23, var g3 [.pointer (some ⟨g1, 0, none⟩), .pointer (some ⟨g1, 1, none⟩), .pointer (some ⟨g1, 2, none⟩), .pointer (some ⟨g1, 3, none⟩), .pointer (some ⟨g1, 4, none⟩), .pointer (some ⟨g1, 5, none⟩), .pointer (some ⟨g1, 6, none⟩), .pointer (some ⟨g1, 7, none⟩), .pointer (some ⟨g1, 8, none⟩), .pointer (some ⟨g1, 9, none⟩), .pointer (some ⟨g1, 10, none⟩), .pointer (some ⟨g1, 11, none⟩)] 53]
  refine J.seq ?_
  refine J.region ?_
  refine O.p (Pu.lss rfl rfl) rfl ?_
  refine O.nil ?_
  refine J.seq ?_
  refine J.condT rfl rfl ?_
  refine J.skip ?_
  refine J.seq ?_
  refine J.block ?_
  refine J.seq ?_
  refine J.region ?_
  refine O.p (Pu.move rfl) rfl ?_
  refine O.p (Pu.assign rfl) rfl ?_
  refine O.nil ?_
  refine J.seq ?_
  refine J.region ?_
  refine O.p (Pu.move rfl) rfl ?_
  refine O.p (Pu.indexAddrK 7 Tryz.runUnderlying53 Tryz.sizeOf52 rfl rfl (by decide) (by decide) rfl) rfl ?_
  refine O.q (Qt.ld rfl (Cel.var 1 rfl) (o := 0) (off := 7) rfl (Cut.one Tryz.isAgg52 rfl)) rfl ?_
  refine O.p (Pu.nilCheck rfl) rfl ?_
  refine O.q (Qt.ld rfl (Cel.var 0 rfl) (o := 0) (off := 7) rfl (Cut.one Tryz.isAgg3 rfl)) rfl ?_
  refine O.p (Pu.lss rfl rfl) rfl ?_
  refine O.nil ?_
  refine J.cond rfl (fun h26 => ?_) (fun h26 => ?_)
  ·
   have p27 := of_decide_eq_true h26
   refine J.seq ?_
   refine J.region ?_
   refine O.p (Pu.assign rfl) rfl ?_
   refine O.nil ?_
   exact J.ret (Fin.ret (rs := [.tmp 2]) rfl [_] ⟨rfl, trivial⟩ [] (by decide) [] rfl ⟨(by rw [Rp.right_neg (r := r) (k := 7) rfl ‹_›]; rfl), rfl⟩)
  ·
   have p28 := of_decide_eq_false h26
   refine J.skip ?_
   refine J.blk ?_
   refine J.region ?_
   refine O.p (Pu.add' rfl rfl (by first | omega | (simp only [List.length_append, List.length_cons, List.length_nil, List.length_set]; omega))) rfl ?_
   refine O.p (Pu.move rfl) rfl ?_
   refine O.nil ?_
   exact J.lp 8 (show 8 ≤ 12 ∧ (((Rp.nums r).take 8).all fun n => decide (0 ≤ n)) = true from ⟨by omega, Rp.all_next hst rfl (decide_eq_true (by omega))⟩) (show 12 - 8 < 12 - 7 from (by first | omega | decide | (simp; done))) ⟨rfl, rfl, (congrArg (fun z => some (Value.int .i64 z)) (by first | rfl | omega : (7 + 1 : Int) = (8 : Int))), trivial⟩ [0, 1] (by decide) rfl
 ·
  show J _ _ [(1, .pointer (some ⟨g1, 0, none⟩)), (3, .pointer (some ⟨g3, 0, none⟩)), (7, .int .i64 8)] [var g1 [.int .i64 r.d0, .int .i64 r.d1, .int .i64 r.d2, .int .i64 r.d3, .int .i64 r.d4, .int .i64 r.d5, .int .i64 r.d6, .int .i64 r.d7, .int .i64 r.d8, .int .i64 r.d9, .int .i64 r.d10, .int .i64 r.d11] 23, var g3 [.pointer (some ⟨g1, 0, none⟩), .pointer (some ⟨g1, 1, none⟩), .pointer (some ⟨g1, 2, none⟩), .pointer (some ⟨g1, 3, none⟩), .pointer (some ⟨g1, 4, none⟩), .pointer (some ⟨g1, 5, none⟩), .pointer (some ⟨g1, 6, none⟩), .pointer (some ⟨g1, 7, none⟩), .pointer (some ⟨g1, 8, none⟩), .pointer (some ⟨g1, 9, none⟩), .pointer (some ⟨g1, 10, none⟩), .pointer (some ⟨g1, 11, none⟩)] 53]
  refine J.seq ?_
  refine J.region ?_
  refine O.p (Pu.lss rfl rfl) rfl ?_
  refine O.nil ?_
  refine J.seq ?_
  refine J.condT rfl rfl ?_
  refine J.skip ?_
  refine J.seq ?_
  refine J.block ?_
  refine J.seq ?_
  refine J.region ?_
  refine O.p (Pu.move rfl) rfl ?_
  refine O.p (Pu.assign rfl) rfl ?_
  refine O.nil ?_
  refine J.seq ?_
  refine J.region ?_
  refine O.p (Pu.move rfl) rfl ?_
  refine O.p (Pu.indexAddrK 8 Tryz.runUnderlying53 Tryz.sizeOf52 rfl rfl (by decide) (by decide) rfl) rfl ?_
  refine O.q (Qt.ld rfl (Cel.var 1 rfl) (o := 0) (off := 8) rfl (Cut.one Tryz.isAgg52 rfl)) rfl ?_
  refine O.p (Pu.nilCheck rfl) rfl ?_
  refine O.q (Qt.ld rfl (Cel.var 0 rfl) (o := 0) (off := 8) rfl (Cut.one Tryz.isAgg3 rfl)) rfl ?_
  refine O.p (Pu.lss rfl rfl) rfl ?_
  refine O.nil ?_
  refine J.cond rfl (fun h29 => ?_) (fun h29 => ?_)
  ·
   have p30 := of_decide_eq_true h29
   refine J.seq ?_
   refine J.region ?_
   refine O.p (Pu.assign rfl) rfl ?_
   refine O.nil ?_
   exact J.ret (Fin.ret (rs := [.tmp 2]) rfl [_] ⟨rfl, trivial⟩ [] (by decide) [] rfl ⟨(by rw [Rp.right_neg (r := r) (k := 8) rfl ‹_›]; rfl), rfl⟩)
  ·
   have p31 := of_decide_eq_false h29
   refine J.skip ?_
   refine J.blk ?_
   refine J.region ?_
   refine O.p (Pu.add' rfl rfl (by first | omega | (simp only [List.length_append, List.length_cons, List.length_nil, List.length_set]; omega))) rfl ?_
   refine O.p (Pu.move rfl) rfl ?_
   refine O.nil ?_
   exact J.lp 9 (show 9 ≤ 12 ∧ (((Rp.nums r).take 9).all fun n => decide (0 ≤ n)) = true from ⟨by omega, Rp.all_next hst rfl (decide_eq_true (by omega))⟩) (show 12 - 9 < 12 - 8 from (by first | omega | decide | (simp; done))) ⟨rfl, rfl, (congrArg (fun z => some (Value.int .i64 z)) (by first | rfl | omega : (8 + 1 : Int) = (9 : Int))), trivial⟩ [0, 1] (by decide) rfl
 ·
  show J _ _ [(1, .pointer (some ⟨g1, 0, none⟩)), (3, .pointer (some ⟨g3, 0, none⟩)), (7, .int .i64 9)] [var g1 [.int .i64 r.d0, .int .i64 r.d1, .int .i64 r.d2, .int .i64 r.d3, .int .i64 r.d4, .int .i64 r.d5, .int .i64 r.d6, .int .i64 r.d7, .int .i64 r.d8, .int .i64 r.d9, .int .i64 r.d10, .int .i64 r.d11] 23, var g3 [.pointer (some ⟨g1, 0, none⟩), .pointer (some ⟨g1, 1, none⟩), .pointer (some ⟨g1, 2, none⟩), .pointer (some ⟨g1, 3, none⟩), .pointer (some ⟨g1, 4, none⟩), .pointer (some ⟨g1, 5, none⟩), .pointer (some ⟨g1, 6, none⟩), .pointer (some ⟨g1, 7, none⟩), .pointer (some ⟨g1, 8, none⟩), .pointer (some ⟨g1, 9, none⟩), .pointer (some ⟨g1, 10, none⟩), .pointer (some ⟨g1, 11, none⟩)] 53]
  refine J.seq ?_
  refine J.region ?_
  refine O.p (Pu.lss rfl rfl) rfl ?_
  refine O.nil ?_
  refine J.seq ?_
  refine J.condT rfl rfl ?_
  refine J.skip ?_
  refine J.seq ?_
  refine J.block ?_
  refine J.seq ?_
  refine J.region ?_
  refine O.p (Pu.move rfl) rfl ?_
  refine O.p (Pu.assign rfl) rfl ?_
  refine O.nil ?_
  refine J.seq ?_
  refine J.region ?_
  refine O.p (Pu.move rfl) rfl ?_
  refine O.p (Pu.indexAddrK 9 Tryz.runUnderlying53 Tryz.sizeOf52 rfl rfl (by decide) (by decide) rfl) rfl ?_
  refine O.q (Qt.ld rfl (Cel.var 1 rfl) (o := 0) (off := 9) rfl (Cut.one Tryz.isAgg52 rfl)) rfl ?_
  refine O.p (Pu.nilCheck rfl) rfl ?_
  refine O.q (Qt.ld rfl (Cel.var 0 rfl) (o := 0) (off := 9) rfl (Cut.one Tryz.isAgg3 rfl)) rfl ?_
  refine O.p (Pu.lss rfl rfl) rfl ?_
  refine O.nil ?_
  refine J.cond rfl (fun h32 => ?_) (fun h32 => ?_)
  ·
   have p33 := of_decide_eq_true h32
   refine J.seq ?_
   refine J.region ?_
   refine O.p (Pu.assign rfl) rfl ?_
   refine O.nil ?_
   exact J.ret (Fin.ret (rs := [.tmp 2]) rfl [_] ⟨rfl, trivial⟩ [] (by decide) [] rfl ⟨(by rw [Rp.right_neg (r := r) (k := 9) rfl ‹_›]; rfl), rfl⟩)
  ·
   have p34 := of_decide_eq_false h32
   refine J.skip ?_
   refine J.blk ?_
   refine J.region ?_
   refine O.p (Pu.add' rfl rfl (by first | omega | (simp only [List.length_append, List.length_cons, List.length_nil, List.length_set]; omega))) rfl ?_
   refine O.p (Pu.move rfl) rfl ?_
   refine O.nil ?_
   exact J.lp 10 (show 10 ≤ 12 ∧ (((Rp.nums r).take 10).all fun n => decide (0 ≤ n)) = true from ⟨by omega, Rp.all_next hst rfl (decide_eq_true (by omega))⟩) (show 12 - 10 < 12 - 9 from (by first | omega | decide | (simp; done))) ⟨rfl, rfl, (congrArg (fun z => some (Value.int .i64 z)) (by first | rfl | omega : (9 + 1 : Int) = (10 : Int))), trivial⟩ [0, 1] (by decide) rfl
 ·
  show J _ _ [(1, .pointer (some ⟨g1, 0, none⟩)), (3, .pointer (some ⟨g3, 0, none⟩)), (7, .int .i64 10)] [var g1 [.int .i64 r.d0, .int .i64 r.d1, .int .i64 r.d2, .int .i64 r.d3, .int .i64 r.d4, .int .i64 r.d5, .int .i64 r.d6, .int .i64 r.d7, .int .i64 r.d8, .int .i64 r.d9, .int .i64 r.d10, .int .i64 r.d11] 23, var g3 [.pointer (some ⟨g1, 0, none⟩), .pointer (some ⟨g1, 1, none⟩), .pointer (some ⟨g1, 2, none⟩), .pointer (some ⟨g1, 3, none⟩), .pointer (some ⟨g1, 4, none⟩), .pointer (some ⟨g1, 5, none⟩), .pointer (some ⟨g1, 6, none⟩), .pointer (some ⟨g1, 7, none⟩), .pointer (some ⟨g1, 8, none⟩), .pointer (some ⟨g1, 9, none⟩), .pointer (some ⟨g1, 10, none⟩), .pointer (some ⟨g1, 11, none⟩)] 53]
  refine J.seq ?_
  refine J.region ?_
  refine O.p (Pu.lss rfl rfl) rfl ?_
  refine O.nil ?_
  refine J.seq ?_
  refine J.condT rfl rfl ?_
  refine J.skip ?_
  refine J.seq ?_
  refine J.block ?_
  refine J.seq ?_
  refine J.region ?_
  refine O.p (Pu.move rfl) rfl ?_
  refine O.p (Pu.assign rfl) rfl ?_
  refine O.nil ?_
  refine J.seq ?_
  refine J.region ?_
  refine O.p (Pu.move rfl) rfl ?_
  refine O.p (Pu.indexAddrK 10 Tryz.runUnderlying53 Tryz.sizeOf52 rfl rfl (by decide) (by decide) rfl) rfl ?_
  refine O.q (Qt.ld rfl (Cel.var 1 rfl) (o := 0) (off := 10) rfl (Cut.one Tryz.isAgg52 rfl)) rfl ?_
  refine O.p (Pu.nilCheck rfl) rfl ?_
  refine O.q (Qt.ld rfl (Cel.var 0 rfl) (o := 0) (off := 10) rfl (Cut.one Tryz.isAgg3 rfl)) rfl ?_
  refine O.p (Pu.lss rfl rfl) rfl ?_
  refine O.nil ?_
  refine J.cond rfl (fun h35 => ?_) (fun h35 => ?_)
  ·
   have p36 := of_decide_eq_true h35
   refine J.seq ?_
   refine J.region ?_
   refine O.p (Pu.assign rfl) rfl ?_
   refine O.nil ?_
   exact J.ret (Fin.ret (rs := [.tmp 2]) rfl [_] ⟨rfl, trivial⟩ [] (by decide) [] rfl ⟨(by rw [Rp.right_neg (r := r) (k := 10) rfl ‹_›]; rfl), rfl⟩)
  ·
   have p37 := of_decide_eq_false h35
   refine J.skip ?_
   refine J.blk ?_
   refine J.region ?_
   refine O.p (Pu.add' rfl rfl (by first | omega | (simp only [List.length_append, List.length_cons, List.length_nil, List.length_set]; omega))) rfl ?_
   refine O.p (Pu.move rfl) rfl ?_
   refine O.nil ?_
   exact J.lp 11 (show 11 ≤ 12 ∧ (((Rp.nums r).take 11).all fun n => decide (0 ≤ n)) = true from ⟨by omega, Rp.all_next hst rfl (decide_eq_true (by omega))⟩) (show 12 - 11 < 12 - 10 from (by first | omega | decide | (simp; done))) ⟨rfl, rfl, (congrArg (fun z => some (Value.int .i64 z)) (by first | rfl | omega : (10 + 1 : Int) = (11 : Int))), trivial⟩ [0, 1] (by decide) rfl
 ·
  show J _ _ [(1, .pointer (some ⟨g1, 0, none⟩)), (3, .pointer (some ⟨g3, 0, none⟩)), (7, .int .i64 11)] [var g1 [.int .i64 r.d0, .int .i64 r.d1, .int .i64 r.d2, .int .i64 r.d3, .int .i64 r.d4, .int .i64 r.d5, .int .i64 r.d6, .int .i64 r.d7, .int .i64 r.d8, .int .i64 r.d9, .int .i64 r.d10, .int .i64 r.d11] 23, var g3 [.pointer (some ⟨g1, 0, none⟩), .pointer (some ⟨g1, 1, none⟩), .pointer (some ⟨g1, 2, none⟩), .pointer (some ⟨g1, 3, none⟩), .pointer (some ⟨g1, 4, none⟩), .pointer (some ⟨g1, 5, none⟩), .pointer (some ⟨g1, 6, none⟩), .pointer (some ⟨g1, 7, none⟩), .pointer (some ⟨g1, 8, none⟩), .pointer (some ⟨g1, 9, none⟩), .pointer (some ⟨g1, 10, none⟩), .pointer (some ⟨g1, 11, none⟩)] 53]
  refine J.seq ?_
  refine J.region ?_
  refine O.p (Pu.lss rfl rfl) rfl ?_
  refine O.nil ?_
  refine J.seq ?_
  refine J.condT rfl rfl ?_
  refine J.skip ?_
  refine J.seq ?_
  refine J.block ?_
  refine J.seq ?_
  refine J.region ?_
  refine O.p (Pu.move rfl) rfl ?_
  refine O.p (Pu.assign rfl) rfl ?_
  refine O.nil ?_
  refine J.seq ?_
  refine J.region ?_
  refine O.p (Pu.move rfl) rfl ?_
  refine O.p (Pu.indexAddrK 11 Tryz.runUnderlying53 Tryz.sizeOf52 rfl rfl (by decide) (by decide) rfl) rfl ?_
  refine O.q (Qt.ld rfl (Cel.var 1 rfl) (o := 0) (off := 11) rfl (Cut.one Tryz.isAgg52 rfl)) rfl ?_
  refine O.p (Pu.nilCheck rfl) rfl ?_
  refine O.q (Qt.ld rfl (Cel.var 0 rfl) (o := 0) (off := 11) rfl (Cut.one Tryz.isAgg3 rfl)) rfl ?_
  refine O.p (Pu.lss rfl rfl) rfl ?_
  refine O.nil ?_
  refine J.cond rfl (fun h38 => ?_) (fun h38 => ?_)
  ·
   have p39 := of_decide_eq_true h38
   refine J.seq ?_
   refine J.region ?_
   refine O.p (Pu.assign rfl) rfl ?_
   refine O.nil ?_
   exact J.ret (Fin.ret (rs := [.tmp 2]) rfl [_] ⟨rfl, trivial⟩ [] (by decide) [] rfl ⟨(by rw [Rp.right_neg (r := r) (k := 11) rfl ‹_›]; rfl), rfl⟩)
  ·
   have p40 := of_decide_eq_false h38
   refine J.skip ?_
   refine J.blk ?_
   refine J.region ?_
   refine O.p (Pu.add' rfl rfl (by first | omega | (simp only [List.length_append, List.length_cons, List.length_nil, List.length_set]; omega))) rfl ?_
   refine O.p (Pu.move rfl) rfl ?_
   refine O.nil ?_
   exact J.lp 12 (show 12 ≤ 12 ∧ (((Rp.nums r).take 12).all fun n => decide (0 ≤ n)) = true from ⟨by omega, Rp.all_next hst rfl (decide_eq_true (by omega))⟩) (show 12 - 12 < 12 - 11 from (by first | omega | decide | (simp; done))) ⟨rfl, rfl, (congrArg (fun z => some (Value.int .i64 z)) (by first | rfl | omega : (11 + 1 : Int) = (12 : Int))), trivial⟩ [0, 1] (by decide) rfl
 ·
  show J _ _ [(1, .pointer (some ⟨g1, 0, none⟩)), (3, .pointer (some ⟨g3, 0, none⟩)), (7, .int .i64 12)] [var g1 [.int .i64 r.d0, .int .i64 r.d1, .int .i64 r.d2, .int .i64 r.d3, .int .i64 r.d4, .int .i64 r.d5, .int .i64 r.d6, .int .i64 r.d7, .int .i64 r.d8, .int .i64 r.d9, .int .i64 r.d10, .int .i64 r.d11] 23, var g3 [.pointer (some ⟨g1, 0, none⟩), .pointer (some ⟨g1, 1, none⟩), .pointer (some ⟨g1, 2, none⟩), .pointer (some ⟨g1, 3, none⟩), .pointer (some ⟨g1, 4, none⟩), .pointer (some ⟨g1, 5, none⟩), .pointer (some ⟨g1, 6, none⟩), .pointer (some ⟨g1, 7, none⟩), .pointer (some ⟨g1, 8, none⟩), .pointer (some ⟨g1, 9, none⟩), .pointer (some ⟨g1, 10, none⟩), .pointer (some ⟨g1, 11, none⟩)] 53]
  refine J.seq ?_
  refine J.region ?_
  refine O.p (Pu.lss rfl rfl) rfl ?_
  refine O.nil ?_
  refine J.seq ?_
  refine J.condF rfl rfl ?_
  refine J.exit _ rfl ?_
  refine J.seq ?_
  refine J.drawMix [(0, false), (1, false), (2, false), (3, false), (4, false), (5, false), (6, false), (7, false), (8, false), (9, false), (10, false), (11, false), (12, false), (13, false), (14, false), (17, false), (18, false), (15, true), (16, false), (19, false), (20, false), (21, false)] [0] [var g1 [.int .i64 r.d0, .int .i64 r.d1, .int .i64 r.d2, .int .i64 r.d3, .int .i64 r.d4, .int .i64 r.d5, .int .i64 r.d6, .int .i64 r.d7, .int .i64 r.d8, .int .i64 r.d9, .int .i64 r.d10, .int .i64 r.d11] 23] Tryz.mixed (by kernel_rfl) (by decide) rfl ?_
  refine Mx.p rfl (Pu.fieldAddr (off' := 1) Tryz.runUnderlying23 rfl Tryz.sizeOf3 rfl rfl rfl) rfl ?_
  refine Mx.q rfl (Qt.ld rfl (Cel.var 0 rfl) (o := 0) (off := 1) rfl (Cut.one Tryz.isAgg3 rfl)) rfl ?_
  refine Mx.p rfl (Pu.fieldAddr (off' := 2) Tryz.runUnderlying23 rfl Tryz.sizeOf3 rfl rfl rfl) rfl ?_
  refine Mx.q rfl (Qt.ld rfl (Cel.var 0 rfl) (o := 0) (off := 2) rfl (Cut.one Tryz.isAgg3 rfl)) rfl ?_
  refine Mx.call (vs := [.int .i64 r.d1, .int .i64 r.d2]) (caps := []) rfl (by exact Tryz.call29) rfl rfl (bd_Add r.d1 r.d2) (fun _ _ h => h) RoOk.nil rfl ?_
  refine Mx.p rfl (Pu.fieldAddr (off' := 0) Tryz.runUnderlying23 rfl Tryz.sizeOf3 rfl rfl rfl) rfl ?_
  refine Mx.q rfl (Qt.ld rfl (Cel.var 0 rfl) (o := 0) (off := 0) rfl (Cut.one Tryz.isAgg3 rfl)) rfl ?_
  refine Mx.p rfl (Pu.leq rfl rfl) rfl ?_
  refine Mx.p rfl (Pu.move rfl) rfl ?_
  refine by_bool (decide ((Rp.addC r.d1 r.d2) ≤ r.d0)) (fun h41 => ?_) (fun h41 => ?_)
  ·
   have p42 := of_decide_eq_true h41
   refine Mx.gq (t := 25) rfl rfl rfl h41 rfl (Pu.qt (Pu.fieldAddr (off' := 4) Tryz.runUnderlying23 rfl Tryz.sizeOf3 rfl rfl rfl)) rfl ?_
   refine Mx.gq (t := 25) rfl rfl rfl h41 rfl (Qt.ld rfl (Cel.var 0 rfl) (o := 0) (off := 4) rfl (Cut.one Tryz.isAgg3 rfl)) rfl ?_
   refine Mx.gq (t := 25) rfl rfl rfl h41 rfl (Pu.qt (Pu.fieldAddr (off' := 5) Tryz.runUnderlying23 rfl Tryz.sizeOf3 rfl rfl rfl)) rfl ?_
   refine Mx.gq (t := 25) rfl rfl rfl h41 rfl (Qt.ld rfl (Cel.var 0 rfl) (o := 0) (off := 5) rfl (Cut.one Tryz.isAgg3 rfl)) rfl ?_
   refine Mx.gq (t := 25) rfl rfl rfl h41 rfl (Pu.qt (Pu.fieldAddr (off' := 6) Tryz.runUnderlying23 rfl Tryz.sizeOf3 rfl rfl rfl)) rfl ?_
   refine Mx.gq (t := 25) rfl rfl rfl h41 rfl (Qt.ld rfl (Cel.var 0 rfl) (o := 0) (off := 6) rfl (Cut.one Tryz.isAgg3 rfl)) rfl ?_
   refine Mx.gq (t := 25) rfl rfl rfl h41 rfl (Pu.qt (Pu.fieldAddr (off' := 0) Tryz.runUnderlying23 rfl Tryz.sizeOf3 rfl rfl rfl)) rfl ?_
   refine Mx.gq (t := 25) rfl rfl rfl h41 rfl (Qt.ld rfl (Cel.var 0 rfl) (o := 0) (off := 0) rfl (Cut.one Tryz.isAgg3 rfl)) rfl ?_
   refine Mx.gl (t := 25) rfl rfl rfl h41 rfl (Lo.buildM (s := 1) encZ [r.d4, r.d5, r.d6] [(0, .int .i64 r.d4), (1, .int .i64 r.d5), (2, .int .i64 r.d6)] (by exact Tryz.runUnderlying34) (by exact Tryz.sizeOf3) (by exact Tryz.zeroValue3) rfl rfl rfl (by kernel_rfl) rfl rfl) rfl ?_
   rintro V43 _ rfl
   refine MxK.go [0, 1] [1] [row V43 3 1 (([r.d4, r.d5, r.d6]).map encZ), var g1 [.int .i64 r.d0, .int .i64 r.d1, .int .i64 r.d2, .int .i64 r.d3, .int .i64 r.d4, .int .i64 r.d5, .int .i64 r.d6, .int .i64 r.d7, .int .i64 r.d8, .int .i64 r.d9, .int .i64 r.d10, .int .i64 r.d11] 23] (by decide) rfl (by decide) rfl ?_
   refine Mx.gcall (vs := [V43]) (caps := []) (t := 25) rfl rfl rfl h41 rfl (by exact Tryz.call35) rfl rfl (bd_Sum V43 ([r.d4, r.d5, r.d6]) (by first | decide | omega | (simp; done))) (fun _ _ h => h) (RoOk.of 0 rfl row_rd [] (by decide) rfl RoOk.nil) rfl ?_
   refine Mx.gq (t := 25) rfl rfl rfl h41 rfl (Pu.qt (Pu.leq rfl rfl)) rfl ?_
   refine Mx.p rfl (Pu.pickT rfl h41 rfl) rfl ?_
   refine Mx.p rfl (Pu.assign rfl) rfl ?_
   refine Mx.nil ?_
   refine J.seq ?_
   refine J.drawMix [(0, false), (1, false), (2, false), (3, false), (4, false), (5, false), (6, false), (7, false), (8, false), (9, false), (10, false), (11, false), (12, false), (13, false), (14, false), (15, false), (16, false), (17, false), (18, false), (19, false), (20, false), (21, false), (22, false)] [1] [var g1 [.int .i64 r.d0, .int .i64 r.d1, .int .i64 r.d2, .int .i64 r.d3, .int .i64 r.d4, .int .i64 r.d5, .int .i64 r.d6, .int .i64 r.d7, .int .i64 r.d8, .int .i64 r.d9, .int .i64 r.d10, .int .i64 r.d11] 23] Tryz.mixed (by kernel_rfl) (by decide) rfl ?_
   refine Mx.p rfl (Pu.move rfl) rfl ?_
   refine Mx.p rfl (Pu.move rfl) rfl ?_
   refine by_bool (decide ((Rp.sumC ([r.d4, r.d5, r.d6])) ≤ r.d0)) (fun h44 => ?_) (fun h44 => ?_)
   ·
    have p45 := of_decide_eq_true h44
    refine Mx.gq (t := 39) rfl rfl rfl h44 rfl (Pu.qt (Pu.fieldAddr (off' := 3) Tryz.runUnderlying23 rfl Tryz.sizeOf3 rfl rfl rfl)) rfl ?_
    refine Mx.gq (t := 39) rfl rfl rfl h44 rfl (Qt.ld rfl (Cel.var 0 rfl) (o := 0) (off := 3) rfl (Cut.one Tryz.isAgg3 rfl)) rfl ?_
    refine Mx.gq (t := 39) rfl rfl rfl h44 rfl (Pu.qt (Pu.fieldAddr (off' := 1) Tryz.runUnderlying23 rfl Tryz.sizeOf3 rfl rfl rfl)) rfl ?_
    refine Mx.gq (t := 39) rfl rfl rfl h44 rfl (Qt.ld rfl (Cel.var 0 rfl) (o := 0) (off := 1) rfl (Cut.one Tryz.isAgg3 rfl)) rfl ?_
    refine Mx.gq (t := 39) rfl rfl rfl h44 rfl (Pu.qt (Pu.leq rfl rfl)) rfl ?_
    refine Mx.p rfl (Pu.pickT rfl h44 rfl) rfl ?_
    refine Mx.p rfl (Pu.move rfl) rfl ?_
    refine by_bool (decide (r.d3 ≤ r.d1)) (fun h46 => ?_) (fun h46 => ?_)
    ·
     have p47 := of_decide_eq_true h46
     refine Mx.gq (t := 46) rfl rfl rfl h46 rfl (Pu.qt (Pu.fieldAddr (off' := 4) Tryz.runUnderlying23 rfl Tryz.sizeOf3 rfl rfl rfl)) rfl ?_
     refine Mx.gq (t := 46) rfl rfl rfl h46 rfl (Qt.ld rfl (Cel.var 0 rfl) (o := 0) (off := 4) rfl (Cut.one Tryz.isAgg3 rfl)) rfl ?_
     refine Mx.gq (t := 46) rfl rfl rfl h46 rfl (Pu.qt (Pu.fieldAddr (off' := 3) Tryz.runUnderlying23 rfl Tryz.sizeOf3 rfl rfl rfl)) rfl ?_
     refine Mx.gq (t := 46) rfl rfl rfl h46 rfl (Qt.ld rfl (Cel.var 0 rfl) (o := 0) (off := 3) rfl (Cut.one Tryz.isAgg3 rfl)) rfl ?_
     refine Mx.gq (t := 46) rfl rfl rfl h46 rfl (Pu.qt (Pu.leq rfl rfl)) rfl ?_
     refine Mx.p rfl (Pu.pickT rfl h46 rfl) rfl ?_
     refine Mx.p rfl (Pu.move rfl) rfl ?_
     refine by_bool (decide (r.d4 ≤ r.d3)) (fun h48 => ?_) (fun h48 => ?_)
     ·
      have p49 := of_decide_eq_true h48
      refine Mx.gq (t := 53) rfl rfl rfl h48 rfl (Pu.qt (Pu.fieldAddr (off' := 11) Tryz.runUnderlying23 rfl Tryz.sizeOf3 rfl rfl rfl)) rfl ?_
      refine Mx.gq (t := 53) rfl rfl rfl h48 rfl (Qt.ld rfl (Cel.var 0 rfl) (o := 0) (off := 11) rfl (Cut.one Tryz.isAgg3 rfl)) rfl ?_
      refine Mx.gq (t := 53) rfl rfl rfl h48 rfl (Qt.ld rfl (Cel.var 0 rfl) (o := 0) (off := 0) rfl (Cut.agg [.int .i64 r.d0, .int .i64 r.d1, .int .i64 r.d2, .int .i64 r.d3, .int .i64 r.d4, .int .i64 r.d5, .int .i64 r.d6, .int .i64 r.d7, .int .i64 r.d8, .int .i64 r.d9, .int .i64 r.d10, .int .i64 r.d11] Tryz.isAgg23 Tryz.sizeOf23 rfl rfl)) rfl ?_
      refine Mx.gcall (vs := [.agg #[.int .i64 r.d0, .int .i64 r.d1, .int .i64 r.d2, .int .i64 r.d3, .int .i64 r.d4, .int .i64 r.d5, .int .i64 r.d6, .int .i64 r.d7, .int .i64 r.d8, .int .i64 r.d9, .int .i64 r.d10, .int .i64 r.d11]]) (caps := []) (t := 53) rfl rfl rfl h48 rfl (by exact Tryz.call31) rfl rfl (rp_share r) (fun _ _ h => h) RoOk.nil rfl ?_
      refine Mx.gq (t := 53) rfl rfl rfl h48 rfl (Pu.qt (Pu.eql rfl rfl)) rfl ?_
      refine Mx.p rfl (Pu.pickT rfl h48 rfl) rfl ?_
      refine Mx.p rfl (Pu.assign rfl) rfl ?_
      refine Mx.nil ?_
      exact J.ret (Fin.ret (rs := [.tmp 2]) rfl [_] ⟨rfl, trivial⟩ [] (by decide) [] rfl ⟨(by rw [Rp.right_all hst]; exact congrArg Value.bool (Bool.eq_iff_iff.2 (by simp only [Bool.and_eq_true, decide_eq_true_eq, Bool.false_eq_true]; omega))), rfl⟩)
     ·
      have p50 := of_decide_eq_false h48
      refine Mx.gskip (t := 53) rfl rfl rfl (no_bool (by rw [h48]; decide)) rfl rfl ?_
      refine Mx.gskip (t := 53) rfl rfl rfl (no_bool (by rw [h48]; decide)) rfl rfl ?_
      refine Mx.gskip (t := 53) rfl rfl rfl (no_bool (by rw [h48]; decide)) rfl rfl ?_
      refine Mx.gskip (t := 53) rfl rfl rfl (no_bool (by rw [h48]; decide)) rfl rfl ?_
      refine Mx.gskip (t := 53) rfl rfl rfl (no_bool (by rw [h48]; decide)) rfl rfl ?_
      refine Mx.p rfl (Pu.pickF rfl h48 rfl) rfl ?_
      refine Mx.p rfl (Pu.assign rfl) rfl ?_
      refine Mx.nil ?_
      exact J.ret (Fin.ret (rs := [.tmp 2]) rfl [_] ⟨rfl, trivial⟩ [] (by decide) [] rfl ⟨(by rw [Rp.right_all hst]; exact congrArg Value.bool (Eq.symm (by simp only [Bool.and_eq_false_iff, decide_eq_false_iff_not]; omega))), rfl⟩)
    ·
     have p51 := of_decide_eq_false h46
     refine Mx.gskip (t := 46) rfl rfl rfl (no_bool (by rw [h46]; decide)) rfl rfl ?_
     refine Mx.gskip (t := 46) rfl rfl rfl (no_bool (by rw [h46]; decide)) rfl rfl ?_
     refine Mx.gskip (t := 46) rfl rfl rfl (no_bool (by rw [h46]; decide)) rfl rfl ?_
     refine Mx.gskip (t := 46) rfl rfl rfl (no_bool (by rw [h46]; decide)) rfl rfl ?_
     refine Mx.gskip (t := 46) rfl rfl rfl (no_bool (by rw [h46]; decide)) rfl rfl ?_
     refine Mx.p rfl (Pu.pickF rfl h46 rfl) rfl ?_
     refine Mx.p rfl (Pu.move rfl) rfl ?_
     refine Mx.gskip (t := 53) rfl rfl rfl (no_bool (by decide)) rfl rfl ?_
     refine Mx.gskip (t := 53) rfl rfl rfl (no_bool (by decide)) rfl rfl ?_
     refine Mx.gskip (t := 53) rfl rfl rfl (no_bool (by decide)) rfl rfl ?_
     refine Mx.gskip (t := 53) rfl rfl rfl (no_bool (by decide)) rfl rfl ?_
     refine Mx.gskip (t := 53) rfl rfl rfl (no_bool (by decide)) rfl rfl ?_
     refine Mx.p rfl (Pu.pickF rfl rfl rfl) rfl ?_
     refine Mx.p rfl (Pu.assign rfl) rfl ?_
     refine Mx.nil ?_
     exact J.ret (Fin.ret (rs := [.tmp 2]) rfl [_] ⟨rfl, trivial⟩ [] (by decide) [] rfl ⟨(by rw [Rp.right_all hst]; exact congrArg Value.bool (Eq.symm (by simp only [Bool.and_eq_false_iff, decide_eq_false_iff_not]; omega))), rfl⟩)
   ·
    have p52 := of_decide_eq_false h44
    refine Mx.gskip (t := 39) rfl rfl rfl (no_bool (by rw [h44]; decide)) rfl rfl ?_
    refine Mx.gskip (t := 39) rfl rfl rfl (no_bool (by rw [h44]; decide)) rfl rfl ?_
    refine Mx.gskip (t := 39) rfl rfl rfl (no_bool (by rw [h44]; decide)) rfl rfl ?_
    refine Mx.gskip (t := 39) rfl rfl rfl (no_bool (by rw [h44]; decide)) rfl rfl ?_
    refine Mx.gskip (t := 39) rfl rfl rfl (no_bool (by rw [h44]; decide)) rfl rfl ?_
    refine Mx.p rfl (Pu.pickF rfl h44 rfl) rfl ?_
    refine Mx.p rfl (Pu.move rfl) rfl ?_
    refine Mx.gskip (t := 46) rfl rfl rfl (no_bool (by decide)) rfl rfl ?_
    refine Mx.gskip (t := 46) rfl rfl rfl (no_bool (by decide)) rfl rfl ?_
    refine Mx.gskip (t := 46) rfl rfl rfl (no_bool (by decide)) rfl rfl ?_
    refine Mx.gskip (t := 46) rfl rfl rfl (no_bool (by decide)) rfl rfl ?_
    refine Mx.gskip (t := 46) rfl rfl rfl (no_bool (by decide)) rfl rfl ?_
    refine Mx.p rfl (Pu.pickF rfl rfl rfl) rfl ?_
    refine Mx.p rfl (Pu.move rfl) rfl ?_
    refine Mx.gskip (t := 53) rfl rfl rfl (no_bool (by decide)) rfl rfl ?_
    refine Mx.gskip (t := 53) rfl rfl rfl (no_bool (by decide)) rfl rfl ?_
    refine Mx.gskip (t := 53) rfl rfl rfl (no_bool (by decide)) rfl rfl ?_
    refine Mx.gskip (t := 53) rfl rfl rfl (no_bool (by decide)) rfl rfl ?_
    refine Mx.gskip (t := 53) rfl rfl rfl (no_bool (by decide)) rfl rfl ?_
    refine Mx.p rfl (Pu.pickF rfl rfl rfl) rfl ?_
    refine Mx.p rfl (Pu.assign rfl) rfl ?_
    refine Mx.nil ?_
    exact J.ret (Fin.ret (rs := [.tmp 2]) rfl [_] ⟨rfl, trivial⟩ [] (by decide) [] rfl ⟨(by rw [Rp.right_all hst]; exact congrArg Value.bool (Eq.symm (by simp only [Bool.and_eq_false_iff, decide_eq_false_iff_not]; omega))), rfl⟩)
  ·
   have p53 := of_decide_eq_false h41
   refine Mx.gskip (t := 25) rfl rfl rfl (no_bool (by rw [h41]; decide)) rfl rfl ?_
   refine Mx.gskip (t := 25) rfl rfl rfl (no_bool (by rw [h41]; decide)) rfl rfl ?_
   refine Mx.gskip (t := 25) rfl rfl rfl (no_bool (by rw [h41]; decide)) rfl rfl ?_
   refine Mx.gskip (t := 25) rfl rfl rfl (no_bool (by rw [h41]; decide)) rfl rfl ?_
   refine Mx.gskip (t := 25) rfl rfl rfl (no_bool (by rw [h41]; decide)) rfl rfl ?_
   refine Mx.gskip (t := 25) rfl rfl rfl (no_bool (by rw [h41]; decide)) rfl rfl ?_
   refine Mx.gskip (t := 25) rfl rfl rfl (no_bool (by rw [h41]; decide)) rfl rfl ?_
   refine Mx.gskip (t := 25) rfl rfl rfl (no_bool (by rw [h41]; decide)) rfl rfl ?_
   refine Mx.gskipL (t := 25) rfl rfl rfl (no_bool (by rw [h41]; decide)) rfl rfl ?_
   refine MxK.go [0] [0] [var g1 [.int .i64 r.d0, .int .i64 r.d1, .int .i64 r.d2, .int .i64 r.d3, .int .i64 r.d4, .int .i64 r.d5, .int .i64 r.d6, .int .i64 r.d7, .int .i64 r.d8, .int .i64 r.d9, .int .i64 r.d10, .int .i64 r.d11] 23] (by decide) rfl (by decide) rfl ?_
   refine Mx.gskip (t := 25) rfl rfl rfl (no_bool (by rw [h41]; decide)) rfl rfl ?_
   refine Mx.gskip (t := 25) rfl rfl rfl (no_bool (by rw [h41]; decide)) rfl rfl ?_
   refine Mx.p rfl (Pu.pickF rfl h41 rfl) rfl ?_
   refine Mx.p rfl (Pu.assign rfl) rfl ?_
   refine Mx.nil ?_
   refine J.seq ?_
   refine J.drawMix [(0, false), (1, false), (2, false), (3, false), (4, false), (5, false), (6, false), (7, false), (8, false), (9, false), (10, false), (11, false), (12, false), (13, false), (14, false), (15, false), (16, false), (17, false), (18, false), (19, false), (20, false), (21, false), (22, false)] [] [] Tryz.mixed (by kernel_rfl) (by decide) rfl ?_
   refine Mx.p rfl (Pu.move rfl) rfl ?_
   refine Mx.p rfl (Pu.move rfl) rfl ?_
   refine Mx.gskip (t := 39) rfl rfl rfl (no_bool (by decide)) rfl rfl ?_
   refine Mx.gskip (t := 39) rfl rfl rfl (no_bool (by decide)) rfl rfl ?_
   refine Mx.gskip (t := 39) rfl rfl rfl (no_bool (by decide)) rfl rfl ?_
   refine Mx.gskip (t := 39) rfl rfl rfl (no_bool (by decide)) rfl rfl ?_
   refine Mx.gskip (t := 39) rfl rfl rfl (no_bool (by decide)) rfl rfl ?_
   refine Mx.p rfl (Pu.pickF rfl rfl rfl) rfl ?_
   refine Mx.p rfl (Pu.move rfl) rfl ?_
   refine Mx.gskip (t := 46) rfl rfl rfl (no_bool (by decide)) rfl rfl ?_
   refine Mx.gskip (t := 46) rfl rfl rfl (no_bool (by decide)) rfl rfl ?_
   refine Mx.gskip (t := 46) rfl rfl rfl (no_bool (by decide)) rfl rfl ?_
   refine Mx.gskip (t := 46) rfl rfl rfl (no_bool (by decide)) rfl rfl ?_
   refine Mx.gskip (t := 46) rfl rfl rfl (no_bool (by decide)) rfl rfl ?_
   refine Mx.p rfl (Pu.pickF rfl rfl rfl) rfl ?_
   refine Mx.p rfl (Pu.move rfl) rfl ?_
   refine Mx.gskip (t := 53) rfl rfl rfl (no_bool (by decide)) rfl rfl ?_
   refine Mx.gskip (t := 53) rfl rfl rfl (no_bool (by decide)) rfl rfl ?_
   refine Mx.gskip (t := 53) rfl rfl rfl (no_bool (by decide)) rfl rfl ?_
   refine Mx.gskip (t := 53) rfl rfl rfl (no_bool (by decide)) rfl rfl ?_
   refine Mx.gskip (t := 53) rfl rfl rfl (no_bool (by decide)) rfl rfl ?_
   refine Mx.p rfl (Pu.pickF rfl rfl rfl) rfl ?_
   refine Mx.p rfl (Pu.assign rfl) rfl ?_
   refine Mx.nil ?_
   exact J.ret (Fin.ret (rs := [.tmp 2]) rfl [_] ⟨rfl, trivial⟩ [] (by decide) [] rfl ⟨(by rw [Rp.right_all hst]; exact congrArg Value.bool (Eq.symm (by simp only [Bool.and_eq_false_iff, decide_eq_false_iff_not]; omega))), rfl⟩)

end Go.Proofs.YtnkhmbbnabejhaaGreatDoor
