/-
  Walks, printed by a program of mine (lk.py): each function meets its contract.
-/
import Derived.KernelRfl
import Derived.Test.YtnkhmbbnabejhaaGreatDoorRX4
namespace Go.Proofs.YtnkhmbbnabejhaaGreatDoor
open Go Go.LK
set_option linter.unusedSimpArgs false

set_option maxRecDepth 100000 in
theorem r01_Add (a b : Int) : Tri Tryz.prog 32 #[.int .i64 a, .int .i64 b] [] [] (fun v L' => v = .int .i64 (Rp.addC a b) ∧ L' = []) := by
 refine Tri.enter (args := [.int .i64 a, .int .i64 b]) (body := _) 11 Tryz.func32 rfl Tryz.ntmps32 rfl ?_
 intro w0
 refine J.seq ?_
 refine J.region ?_
 refine O.p (Pu.assign rfl) rfl ?_
 refine O.nil ?_
 refine J.seq ?_
 refine J.region ?_
 refine O.p (Pu.move rfl) rfl ?_
 refine O.l (Lo.call [.int .i64 a] (by exact Tryz.call33) rfl (r01_Count a) [] [] (by decide) rfl [] rfl RoOk.nil) rfl ?_
 rintro _ _ ⟨_, ⟨rfl, rfl⟩, rfl⟩
 refine O.p (Pu.move rfl) rfl ?_
 refine O.l (Lo.call [.int .i64 b] (by exact Tryz.call33) rfl (r01_Count b) [] [] (by decide) rfl [] rfl RoOk.nil) rfl ?_
 rintro _ _ ⟨_, ⟨rfl, rfl⟩, rfl⟩
 refine O.p (Pu.add' rfl rfl (by have h1_ := Rp.keep_bnd a (most := 2147483647) (by decide); have h2_ := Rp.keep_bnd b (most := 2147483647) (by decide); omega)) rfl ?_
 refine O.l (Lo.call [.int .i64 ((Rp.keep a 2147483647) + (Rp.keep b 2147483647))] (by exact Tryz.call33) rfl (r01_Count ((Rp.keep a 2147483647) + (Rp.keep b 2147483647))) [] [] (by decide) rfl [] rfl RoOk.nil) rfl ?_
 rintro _ _ ⟨_, ⟨rfl, rfl⟩, rfl⟩
 refine O.p (Pu.assign rfl) rfl ?_
 refine O.nil ?_
 exact J.ret (Fin.ret (rs := [.tmp 4]) rfl [_] ⟨rfl, trivial⟩ [] (by decide) [] rfl ⟨rfl, rfl⟩)

set_option maxRecDepth 100000 in
set_option maxHeartbeats 1000000 in
theorem rp_Add (a b : Rep) : Tri Tryz.prog 10 #[.agg #[.int .i64 a.d0, .int .i64 a.d1, .int .i64 a.d2, .int .i64 a.d3, .int .i64 a.d4, .int .i64 a.d5, .int .i64 a.d6, .int .i64 a.d7, .int .i64 a.d8, .int .i64 a.d9, .int .i64 a.d10, .int .i64 a.d11], .agg #[.int .i64 b.d0, .int .i64 b.d1, .int .i64 b.d2, .int .i64 b.d3, .int .i64 b.d4, .int .i64 b.d5, .int .i64 b.d6, .int .i64 b.d7, .int .i64 b.d8, .int .i64 b.d9, .int .i64 b.d10, .int .i64 b.d11]] [] [] (fun v L' => v = .agg #[.int .i64 ((Rp.plus a b).d0), .int .i64 ((Rp.plus a b).d1), .int .i64 ((Rp.plus a b).d2), .int .i64 ((Rp.plus a b).d3), .int .i64 ((Rp.plus a b).d4), .int .i64 ((Rp.plus a b).d5), .int .i64 ((Rp.plus a b).d6), .int .i64 ((Rp.plus a b).d7), .int .i64 ((Rp.plus a b).d8), .int .i64 ((Rp.plus a b).d9), .int .i64 ((Rp.plus a b).d10), .int .i64 ((Rp.plus a b).d11)] ∧ L' = []) := by
 refine Tri.enter (args := [.agg #[.int .i64 a.d0, .int .i64 a.d1, .int .i64 a.d2, .int .i64 a.d3, .int .i64 a.d4, .int .i64 a.d5, .int .i64 a.d6, .int .i64 a.d7, .int .i64 a.d8, .int .i64 a.d9, .int .i64 a.d10, .int .i64 a.d11], .agg #[.int .i64 b.d0, .int .i64 b.d1, .int .i64 b.d2, .int .i64 b.d3, .int .i64 b.d4, .int .i64 b.d5, .int .i64 b.d6, .int .i64 b.d7, .int .i64 b.d8, .int .i64 b.d9, .int .i64 b.d10, .int .i64 b.d11]]) (body := _) 42 Tryz.func10 rfl Tryz.ntmps10 rfl ?_
 intro w0
 refine J.seq ?_
 refine J.region ?_
 refine O.l (Lo.box [.int .i64 a.d0, .int .i64 a.d1, .int .i64 a.d2, .int .i64 a.d3, .int .i64 a.d4, .int .i64 a.d5, .int .i64 a.d6, .int .i64 a.d7, .int .i64 a.d8, .int .i64 a.d9, .int .i64 a.d10, .int .i64 a.d11] rfl rfl) rfl ?_
 rintro _ _ ⟨g1, rfl, rfl⟩
 refine O.l (Lo.box [.int .i64 b.d0, .int .i64 b.d1, .int .i64 b.d2, .int .i64 b.d3, .int .i64 b.d4, .int .i64 b.d5, .int .i64 b.d6, .int .i64 b.d7, .int .i64 b.d8, .int .i64 b.d9, .int .i64 b.d10, .int .i64 b.d11] rfl rfl) rfl ?_
 rintro _ _ ⟨g2, rfl, rfl⟩
 refine O.l (Lo.alloc [.int .i64 0, .int .i64 0, .int .i64 0, .int .i64 0, .int .i64 0, .int .i64 0, .int .i64 0, .int .i64 0, .int .i64 0, .int .i64 0, .int .i64 0, .int .i64 0] (by exact Tryz.zeroValue23) rfl) rfl ?_
 rintro _ _ ⟨g3, rfl, rfl⟩
 refine O.nil ?_
 refine J.seq ?_
 refine J.region ?_
 refine O.l (Lo.alloc [.int .i64 0, .int .i64 0, .int .i64 0, .int .i64 0, .int .i64 0, .int .i64 0, .int .i64 0, .int .i64 0, .int .i64 0, .int .i64 0, .int .i64 0, .int .i64 0] (by exact Tryz.zeroValue23) rfl) rfl ?_
 rintro _ _ ⟨g4, rfl, rfl⟩
 refine O.nil ?_
 refine J.seq ?_
 refine J.region ?_
 refine O.l (Lo.call [.pointer (some ⟨g1, 0, none⟩)] (by exact Tryz.call22) rfl (rp_fields g1) [] [0, 1, 2, 3] (by decide) rfl [var g4 [.int .i64 0, .int .i64 0, .int .i64 0, .int .i64 0, .int .i64 0, .int .i64 0, .int .i64 0, .int .i64 0, .int .i64 0, .int .i64 0, .int .i64 0, .int .i64 0] 23, var g3 [.int .i64 0, .int .i64 0, .int .i64 0, .int .i64 0, .int .i64 0, .int .i64 0, .int .i64 0, .int .i64 0, .int .i64 0, .int .i64 0, .int .i64 0, .int .i64 0] 23, var g2 [.int .i64 b.d0, .int .i64 b.d1, .int .i64 b.d2, .int .i64 b.d3, .int .i64 b.d4, .int .i64 b.d5, .int .i64 b.d6, .int .i64 b.d7, .int .i64 b.d8, .int .i64 b.d9, .int .i64 b.d10, .int .i64 b.d11] 23, var g1 [.int .i64 a.d0, .int .i64 a.d1, .int .i64 a.d2, .int .i64 a.d3, .int .i64 a.d4, .int .i64 a.d5, .int .i64 a.d6, .int .i64 a.d7, .int .i64 a.d8, .int .i64 a.d9, .int .i64 a.d10, .int .i64 a.d11] 23] rfl RoOk.nil) rfl ?_
 rintro _ _ ⟨_, ⟨rfl, rfl⟩, rfl⟩
 refine O.l (Lo.call [.pointer (some ⟨g2, 0, none⟩)] (by exact Tryz.call22) rfl (rp_fields g2) [] [0, 1, 2, 3] (by decide) rfl [var g4 [.int .i64 0, .int .i64 0, .int .i64 0, .int .i64 0, .int .i64 0, .int .i64 0, .int .i64 0, .int .i64 0, .int .i64 0, .int .i64 0, .int .i64 0, .int .i64 0] 23, var g3 [.int .i64 0, .int .i64 0, .int .i64 0, .int .i64 0, .int .i64 0, .int .i64 0, .int .i64 0, .int .i64 0, .int .i64 0, .int .i64 0, .int .i64 0, .int .i64 0] 23, var g2 [.int .i64 b.d0, .int .i64 b.d1, .int .i64 b.d2, .int .i64 b.d3, .int .i64 b.d4, .int .i64 b.d5, .int .i64 b.d6, .int .i64 b.d7, .int .i64 b.d8, .int .i64 b.d9, .int .i64 b.d10, .int .i64 b.d11] 23, var g1 [.int .i64 a.d0, .int .i64 a.d1, .int .i64 a.d2, .int .i64 a.d3, .int .i64 a.d4, .int .i64 a.d5, .int .i64 a.d6, .int .i64 a.d7, .int .i64 a.d8, .int .i64 a.d9, .int .i64 a.d10, .int .i64 a.d11] 23] rfl RoOk.nil) rfl ?_
 rintro _ _ ⟨_, ⟨rfl, rfl⟩, rfl⟩
 refine O.l (Lo.alloc [Value.pointer none, Value.pointer none, Value.pointer none, Value.pointer none, Value.pointer none, Value.pointer none, Value.pointer none, Value.pointer none, Value.pointer none, Value.pointer none, Value.pointer none, Value.pointer none] (by exact Tryz.zeroValue53) rfl) rfl ?_
 rintro _ _ ⟨g7, rfl, rfl⟩
 refine O.l (Lo.alloc [Value.pointer none, Value.pointer none, Value.pointer none, Value.pointer none, Value.pointer none, Value.pointer none, Value.pointer none, Value.pointer none, Value.pointer none, Value.pointer none, Value.pointer none, Value.pointer none] (by exact Tryz.zeroValue53) rfl) rfl ?_
 rintro _ _ ⟨g8, rfl, rfl⟩
 refine O.l0 (Lo.store 1 (vs := [.pointer (some ⟨g1, 0, none⟩), .pointer (some ⟨g1, 1, none⟩), .pointer (some ⟨g1, 2, none⟩), .pointer (some ⟨g1, 3, none⟩), .pointer (some ⟨g1, 4, none⟩), .pointer (some ⟨g1, 5, none⟩), .pointer (some ⟨g1, 6, none⟩), .pointer (some ⟨g1, 7, none⟩), .pointer (some ⟨g1, 8, none⟩), .pointer (some ⟨g1, 9, none⟩), .pointer (some ⟨g1, 10, none⟩), .pointer (some ⟨g1, 11, none⟩)]) [.pointer (some ⟨g1, 0, none⟩), .pointer (some ⟨g1, 1, none⟩), .pointer (some ⟨g1, 2, none⟩), .pointer (some ⟨g1, 3, none⟩), .pointer (some ⟨g1, 4, none⟩), .pointer (some ⟨g1, 5, none⟩), .pointer (some ⟨g1, 6, none⟩), .pointer (some ⟨g1, 7, none⟩), .pointer (some ⟨g1, 8, none⟩), .pointer (some ⟨g1, 9, none⟩), .pointer (some ⟨g1, 10, none⟩), .pointer (some ⟨g1, 11, none⟩)] rfl rfl rfl (by exact Tryz.sizeOf53) rfl rfl rfl rfl rfl) ?_
 rintro _ _ rfl
 refine O.l0 (Lo.store 0 (vs := [.pointer (some ⟨g2, 0, none⟩), .pointer (some ⟨g2, 1, none⟩), .pointer (some ⟨g2, 2, none⟩), .pointer (some ⟨g2, 3, none⟩), .pointer (some ⟨g2, 4, none⟩), .pointer (some ⟨g2, 5, none⟩), .pointer (some ⟨g2, 6, none⟩), .pointer (some ⟨g2, 7, none⟩), .pointer (some ⟨g2, 8, none⟩), .pointer (some ⟨g2, 9, none⟩), .pointer (some ⟨g2, 10, none⟩), .pointer (some ⟨g2, 11, none⟩)]) [.pointer (some ⟨g2, 0, none⟩), .pointer (some ⟨g2, 1, none⟩), .pointer (some ⟨g2, 2, none⟩), .pointer (some ⟨g2, 3, none⟩), .pointer (some ⟨g2, 4, none⟩), .pointer (some ⟨g2, 5, none⟩), .pointer (some ⟨g2, 6, none⟩), .pointer (some ⟨g2, 7, none⟩), .pointer (some ⟨g2, 8, none⟩), .pointer (some ⟨g2, 9, none⟩), .pointer (some ⟨g2, 10, none⟩), .pointer (some ⟨g2, 11, none⟩)] rfl rfl rfl (by exact Tryz.sizeOf53) rfl rfl rfl rfl rfl) ?_
 rintro _ _ rfl
 refine O.nil ?_
 refine J.seq ?_
 refine J.seq ?_
 refine J.region ?_
 refine O.l (Lo.call [.pointer (some ⟨g4, 0, none⟩)] (by exact Tryz.call22) rfl (rp_fields g4) [] [0, 1, 2, 3, 4, 5] (by decide) rfl [var g8 [.pointer (some ⟨g2, 0, none⟩), .pointer (some ⟨g2, 1, none⟩), .pointer (some ⟨g2, 2, none⟩), .pointer (some ⟨g2, 3, none⟩), .pointer (some ⟨g2, 4, none⟩), .pointer (some ⟨g2, 5, none⟩), .pointer (some ⟨g2, 6, none⟩), .pointer (some ⟨g2, 7, none⟩), .pointer (some ⟨g2, 8, none⟩), .pointer (some ⟨g2, 9, none⟩), .pointer (some ⟨g2, 10, none⟩), .pointer (some ⟨g2, 11, none⟩)] 53, var g7 [.pointer (some ⟨g1, 0, none⟩), .pointer (some ⟨g1, 1, none⟩), .pointer (some ⟨g1, 2, none⟩), .pointer (some ⟨g1, 3, none⟩), .pointer (some ⟨g1, 4, none⟩), .pointer (some ⟨g1, 5, none⟩), .pointer (some ⟨g1, 6, none⟩), .pointer (some ⟨g1, 7, none⟩), .pointer (some ⟨g1, 8, none⟩), .pointer (some ⟨g1, 9, none⟩), .pointer (some ⟨g1, 10, none⟩), .pointer (some ⟨g1, 11, none⟩)] 53, var g4 [.int .i64 0, .int .i64 0, .int .i64 0, .int .i64 0, .int .i64 0, .int .i64 0, .int .i64 0, .int .i64 0, .int .i64 0, .int .i64 0, .int .i64 0, .int .i64 0] 23, var g3 [.int .i64 0, .int .i64 0, .int .i64 0, .int .i64 0, .int .i64 0, .int .i64 0, .int .i64 0, .int .i64 0, .int .i64 0, .int .i64 0, .int .i64 0, .int .i64 0] 23, var g2 [.int .i64 b.d0, .int .i64 b.d1, .int .i64 b.d2, .int .i64 b.d3, .int .i64 b.d4, .int .i64 b.d5, .int .i64 b.d6, .int .i64 b.d7, .int .i64 b.d8, .int .i64 b.d9, .int .i64 b.d10, .int .i64 b.d11] 23, var g1 [.int .i64 a.d0, .int .i64 a.d1, .int .i64 a.d2, .int .i64 a.d3, .int .i64 a.d4, .int .i64 a.d5, .int .i64 a.d6, .int .i64 a.d7, .int .i64 a.d8, .int .i64 a.d9, .int .i64 a.d10, .int .i64 a.d11] 23] rfl RoOk.nil) rfl ?_
 rintro _ _ ⟨_, ⟨rfl, rfl⟩, rfl⟩
 refine O.p (Pu.move rfl) rfl ?_
 refine O.nil ?_
 refine J.block ?_
 refine J.loop (X := Nat) (fun ξ => ξ ≤ 12) (fun ξ => [(2, .pointer (some ⟨g1, 0, none⟩)), (3, .pointer (some ⟨g2, 0, none⟩)), (4, .pointer (some ⟨g3, 0, none⟩)), (5, .pointer (some ⟨g4, 0, none⟩)), (6, .pointer (some ⟨g7, 0, none⟩)), (7, .pointer (some ⟨g8, 0, none⟩)), (12, .agg #[.pointer (some ⟨g4, 0, none⟩), .pointer (some ⟨g4, 1, none⟩), .pointer (some ⟨g4, 2, none⟩), .pointer (some ⟨g4, 3, none⟩), .pointer (some ⟨g4, 4, none⟩), .pointer (some ⟨g4, 5, none⟩), .pointer (some ⟨g4, 6, none⟩), .pointer (some ⟨g4, 7, none⟩), .pointer (some ⟨g4, 8, none⟩), .pointer (some ⟨g4, 9, none⟩), .pointer (some ⟨g4, 10, none⟩), .pointer (some ⟨g4, 11, none⟩)]), (13, .int .i64 (ξ : Int))]) (fun ξ => [var g4 (([Rp.addC a.d0 b.d0, Rp.addC a.d1 b.d1, Rp.addC a.d2 b.d2, Rp.addC a.d3 b.d3, Rp.addC a.d4 b.d4, Rp.addC a.d5 b.d5, Rp.addC a.d6 b.d6, Rp.addC a.d7 b.d7, Rp.addC a.d8 b.d8, Rp.addC a.d9 b.d9, Rp.addC a.d10 b.d10, Rp.addC a.d11 b.d11].take ξ ++ [0, 0, 0, 0, 0, 0, 0, 0, 0, 0, 0, 0].drop ξ).map vI) 23, var g1 [.int .i64 a.d0, .int .i64 a.d1, .int .i64 a.d2, .int .i64 a.d3, .int .i64 a.d4, .int .i64 a.d5, .int .i64 a.d6, .int .i64 a.d7, .int .i64 a.d8, .int .i64 a.d9, .int .i64 a.d10, .int .i64 a.d11] 23, var g2 [.int .i64 b.d0, .int .i64 b.d1, .int .i64 b.d2, .int .i64 b.d3, .int .i64 b.d4, .int .i64 b.d5, .int .i64 b.d6, .int .i64 b.d7, .int .i64 b.d8, .int .i64 b.d9, .int .i64 b.d10, .int .i64 b.d11] 23, var g3 [.int .i64 0, .int .i64 0, .int .i64 0, .int .i64 0, .int .i64 0, .int .i64 0, .int .i64 0, .int .i64 0, .int .i64 0, .int .i64 0, .int .i64 0, .int .i64 0] 23, var g7 [.pointer (some ⟨g1, 0, none⟩), .pointer (some ⟨g1, 1, none⟩), .pointer (some ⟨g1, 2, none⟩), .pointer (some ⟨g1, 3, none⟩), .pointer (some ⟨g1, 4, none⟩), .pointer (some ⟨g1, 5, none⟩), .pointer (some ⟨g1, 6, none⟩), .pointer (some ⟨g1, 7, none⟩), .pointer (some ⟨g1, 8, none⟩), .pointer (some ⟨g1, 9, none⟩), .pointer (some ⟨g1, 10, none⟩), .pointer (some ⟨g1, 11, none⟩)] 53, var g8 [.pointer (some ⟨g2, 0, none⟩), .pointer (some ⟨g2, 1, none⟩), .pointer (some ⟨g2, 2, none⟩), .pointer (some ⟨g2, 3, none⟩), .pointer (some ⟨g2, 4, none⟩), .pointer (some ⟨g2, 5, none⟩), .pointer (some ⟨g2, 6, none⟩), .pointer (some ⟨g2, 7, none⟩), .pointer (some ⟨g2, 8, none⟩), .pointer (some ⟨g2, 9, none⟩), .pointer (some ⟨g2, 10, none⟩), .pointer (some ⟨g2, 11, none⟩)] 53]) (fun ξ => 12 - ξ) 0 (show 0 ≤ 12 from (by omega)) ⟨rfl, rfl, rfl, rfl, rfl, rfl, rfl, (congrArg (fun z => some (Value.int .i64 z)) (by first | rfl | omega : (0 : Int) = (0 : Int))), trivial⟩ [2, 5, 4, 3, 1, 0] (by decide) rfl ?_
 rintro k hq10
 obtain hk : k ≤ 12 := hq10
 show J _ _ [(2, .pointer (some ⟨g1, 0, none⟩)), (3, .pointer (some ⟨g2, 0, none⟩)), (4, .pointer (some ⟨g3, 0, none⟩)), (5, .pointer (some ⟨g4, 0, none⟩)), (6, .pointer (some ⟨g7, 0, none⟩)), (7, .pointer (some ⟨g8, 0, none⟩)), (12, .agg #[.pointer (some ⟨g4, 0, none⟩), .pointer (some ⟨g4, 1, none⟩), .pointer (some ⟨g4, 2, none⟩), .pointer (some ⟨g4, 3, none⟩), .pointer (some ⟨g4, 4, none⟩), .pointer (some ⟨g4, 5, none⟩), .pointer (some ⟨g4, 6, none⟩), .pointer (some ⟨g4, 7, none⟩), .pointer (some ⟨g4, 8, none⟩), .pointer (some ⟨g4, 9, none⟩), .pointer (some ⟨g4, 10, none⟩), .pointer (some ⟨g4, 11, none⟩)]), (13, .int .i64 (k : Int))] [var g4 (([Rp.addC a.d0 b.d0, Rp.addC a.d1 b.d1, Rp.addC a.d2 b.d2, Rp.addC a.d3 b.d3, Rp.addC a.d4 b.d4, Rp.addC a.d5 b.d5, Rp.addC a.d6 b.d6, Rp.addC a.d7 b.d7, Rp.addC a.d8 b.d8, Rp.addC a.d9 b.d9, Rp.addC a.d10 b.d10, Rp.addC a.d11 b.d11].take k ++ [0, 0, 0, 0, 0, 0, 0, 0, 0, 0, 0, 0].drop k).map vI) 23, var g1 [.int .i64 a.d0, .int .i64 a.d1, .int .i64 a.d2, .int .i64 a.d3, .int .i64 a.d4, .int .i64 a.d5, .int .i64 a.d6, .int .i64 a.d7, .int .i64 a.d8, .int .i64 a.d9, .int .i64 a.d10, .int .i64 a.d11] 23, var g2 [.int .i64 b.d0, .int .i64 b.d1, .int .i64 b.d2, .int .i64 b.d3, .int .i64 b.d4, .int .i64 b.d5, .int .i64 b.d6, .int .i64 b.d7, .int .i64 b.d8, .int .i64 b.d9, .int .i64 b.d10, .int .i64 b.d11] 23, var g3 [.int .i64 0, .int .i64 0, .int .i64 0, .int .i64 0, .int .i64 0, .int .i64 0, .int .i64 0, .int .i64 0, .int .i64 0, .int .i64 0, .int .i64 0, .int .i64 0] 23, var g7 [.pointer (some ⟨g1, 0, none⟩), .pointer (some ⟨g1, 1, none⟩), .pointer (some ⟨g1, 2, none⟩), .pointer (some ⟨g1, 3, none⟩), .pointer (some ⟨g1, 4, none⟩), .pointer (some ⟨g1, 5, none⟩), .pointer (some ⟨g1, 6, none⟩), .pointer (some ⟨g1, 7, none⟩), .pointer (some ⟨g1, 8, none⟩), .pointer (some ⟨g1, 9, none⟩), .pointer (some ⟨g1, 10, none⟩), .pointer (some ⟨g1, 11, none⟩)] 53, var g8 [.pointer (some ⟨g2, 0, none⟩), .pointer (some ⟨g2, 1, none⟩), .pointer (some ⟨g2, 2, none⟩), .pointer (some ⟨g2, 3, none⟩), .pointer (some ⟨g2, 4, none⟩), .pointer (some ⟨g2, 5, none⟩), .pointer (some ⟨g2, 6, none⟩), .pointer (some ⟨g2, 7, none⟩), .pointer (some ⟨g2, 8, none⟩), .pointer (some ⟨g2, 9, none⟩), .pointer (some ⟨g2, 10, none⟩), .pointer (some ⟨g2, 11, none⟩)] 53]
 obtain rfl | rfl | rfl | rfl | rfl | rfl | rfl | rfl | rfl | rfl | rfl | rfl | rfl : k = 0 ∨ k = 1 ∨ k = 2 ∨ k = 3 ∨ k = 4 ∨ k = 5 ∨ k = 6 ∨ k = 7 ∨ k = 8 ∨ k = 9 ∨ k = 10 ∨ k = 11 ∨ k = 12 := by omega
 ·
  show J _ _ [(2, .pointer (some ⟨g1, 0, none⟩)), (3, .pointer (some ⟨g2, 0, none⟩)), (4, .pointer (some ⟨g3, 0, none⟩)), (5, .pointer (some ⟨g4, 0, none⟩)), (6, .pointer (some ⟨g7, 0, none⟩)), (7, .pointer (some ⟨g8, 0, none⟩)), (12, .agg #[.pointer (some ⟨g4, 0, none⟩), .pointer (some ⟨g4, 1, none⟩), .pointer (some ⟨g4, 2, none⟩), .pointer (some ⟨g4, 3, none⟩), .pointer (some ⟨g4, 4, none⟩), .pointer (some ⟨g4, 5, none⟩), .pointer (some ⟨g4, 6, none⟩), .pointer (some ⟨g4, 7, none⟩), .pointer (some ⟨g4, 8, none⟩), .pointer (some ⟨g4, 9, none⟩), .pointer (some ⟨g4, 10, none⟩), .pointer (some ⟨g4, 11, none⟩)]), (13, .int .i64 0)] [var g4 [.int .i64 0, .int .i64 0, .int .i64 0, .int .i64 0, .int .i64 0, .int .i64 0, .int .i64 0, .int .i64 0, .int .i64 0, .int .i64 0, .int .i64 0, .int .i64 0] 23, var g1 [.int .i64 a.d0, .int .i64 a.d1, .int .i64 a.d2, .int .i64 a.d3, .int .i64 a.d4, .int .i64 a.d5, .int .i64 a.d6, .int .i64 a.d7, .int .i64 a.d8, .int .i64 a.d9, .int .i64 a.d10, .int .i64 a.d11] 23, var g2 [.int .i64 b.d0, .int .i64 b.d1, .int .i64 b.d2, .int .i64 b.d3, .int .i64 b.d4, .int .i64 b.d5, .int .i64 b.d6, .int .i64 b.d7, .int .i64 b.d8, .int .i64 b.d9, .int .i64 b.d10, .int .i64 b.d11] 23, var g3 [.int .i64 0, .int .i64 0, .int .i64 0, .int .i64 0, .int .i64 0, .int .i64 0, .int .i64 0, .int .i64 0, .int .i64 0, .int .i64 0, .int .i64 0, .int .i64 0] 23, var g7 [.pointer (some ⟨g1, 0, none⟩), .pointer (some ⟨g1, 1, none⟩), .pointer (some ⟨g1, 2, none⟩), .pointer (some ⟨g1, 3, none⟩), .pointer (some ⟨g1, 4, none⟩), .pointer (some ⟨g1, 5, none⟩), .pointer (some ⟨g1, 6, none⟩), .pointer (some ⟨g1, 7, none⟩), .pointer (some ⟨g1, 8, none⟩), .pointer (some ⟨g1, 9, none⟩), .pointer (some ⟨g1, 10, none⟩), .pointer (some ⟨g1, 11, none⟩)] 53, var g8 [.pointer (some ⟨g2, 0, none⟩), .pointer (some ⟨g2, 1, none⟩), .pointer (some ⟨g2, 2, none⟩), .pointer (some ⟨g2, 3, none⟩), .pointer (some ⟨g2, 4, none⟩), .pointer (some ⟨g2, 5, none⟩), .pointer (some ⟨g2, 6, none⟩), .pointer (some ⟨g2, 7, none⟩), .pointer (some ⟨g2, 8, none⟩), .pointer (some ⟨g2, 9, none⟩), .pointer (some ⟨g2, 10, none⟩), .pointer (some ⟨g2, 11, none⟩)] 53]
  refine J.seq ?_
  refine J.region ?_
  refine O.p (Pu.lss rfl rfl) rfl ?_
  refine O.nil ?_
  refine J.seq ?_
  refine J.condT rfl rfl ?_
  refine J.skip ?_
  refine J.seq ?_
  refine J.block ?_
  refine J.seq ?_
  refine J.region ?_
  refine O.p (Pu.move rfl) rfl ?_
  refine O.p (Pu.indexK1 (cs := [.pointer (some ⟨g4, 0, none⟩), .pointer (some ⟨g4, 1, none⟩), .pointer (some ⟨g4, 2, none⟩), .pointer (some ⟨g4, 3, none⟩), .pointer (some ⟨g4, 4, none⟩), .pointer (some ⟨g4, 5, none⟩), .pointer (some ⟨g4, 6, none⟩), .pointer (some ⟨g4, 7, none⟩), .pointer (some ⟨g4, 8, none⟩), .pointer (some ⟨g4, 9, none⟩), .pointer (some ⟨g4, 10, none⟩), .pointer (some ⟨g4, 11, none⟩)]) Tryz.runUnderlying53 Tryz.sizeOf52 Tryz.isAgg52 rfl rfl (by decide) (by decide) rfl) rfl ?_
  refine O.p (Pu.assign rfl) rfl ?_
  refine O.p (Pu.assign rfl) rfl ?_
  refine O.nil ?_
  refine J.drawHead 13 Tryz.mixed (by kernel_rfl) ?_
  refine Hd.p (Pu.move rfl) rfl ?_
  refine Hd.p (Pu.move rfl) rfl ?_
  refine Hd.p (Pu.indexAddrK 0 Tryz.runUnderlying53 Tryz.sizeOf52 rfl rfl (by decide) (by decide) rfl) rfl ?_
  refine Hd.q (Qt.ld rfl (Cel.var 4 rfl) (o := 0) (off := 0) rfl (Cut.one Tryz.isAgg52 rfl)) rfl ?_
  refine Hd.p (Pu.nilCheck rfl) rfl ?_
  refine Hd.q (Qt.ld rfl (Cel.var 1 rfl) (o := 0) (off := 0) rfl (Cut.one Tryz.isAgg3 rfl)) rfl ?_
  refine Hd.p (Pu.move rfl) rfl ?_
  refine Hd.p (Pu.indexAddrK 0 Tryz.runUnderlying53 Tryz.sizeOf52 rfl rfl (by decide) (by decide) rfl) rfl ?_
  refine Hd.q (Qt.ld rfl (Cel.var 5 rfl) (o := 0) (off := 0) rfl (Cut.one Tryz.isAgg52 rfl)) rfl ?_
  refine Hd.p (Pu.nilCheck rfl) rfl ?_
  refine Hd.q (Qt.ld rfl (Cel.var 2 rfl) (o := 0) (off := 0) rfl (Cut.one Tryz.isAgg3 rfl)) rfl ?_
  refine Hd.call (vs := [.int .i64 a.d0, .int .i64 b.d0]) (caps := []) (by exact Tryz.call29) rfl rfl (bd_Add a.d0 b.d0) (fun _ _ h => h) RoOk.nil rfl ?_
  refine Hd.p (Pu.nilCheck rfl) rfl ?_
  refine Hd.nil ?_
  refine O.l0 (Lo.store 0 (vs := [.int .i64 (Rp.addC a.d0 b.d0)]) [.int .i64 (Rp.addC a.d0 b.d0), .int .i64 0, .int .i64 0, .int .i64 0, .int .i64 0, .int .i64 0, .int .i64 0, .int .i64 0, .int .i64 0, .int .i64 0, .int .i64 0, .int .i64 0] rfl rfl rfl (by exact Tryz.sizeOf3) rfl rfl rfl rfl rfl) ?_
  rintro _ _ rfl
  refine O.nil ?_
  refine J.blk ?_
  refine J.region ?_
  refine O.p (Pu.add' rfl rfl (by first | omega | (simp only [List.length_append, List.length_cons, List.length_nil, List.length_set]; omega))) rfl ?_
  refine O.p (Pu.move rfl) rfl ?_
  refine O.nil ?_
  exact J.lp 1 (show 1 ≤ 12 from (by omega)) (show 12 - 1 < 12 - 0 from (by first | omega | decide | (simp; done) | (simp only [List.length_append, List.length_cons, List.length_nil, List.length_take]; omega))) ⟨rfl, rfl, rfl, rfl, rfl, rfl, rfl, (congrArg (fun z => some (Value.int .i64 z)) (by first | rfl | omega : (0 + 1 : Int) = (1 : Int))), trivial⟩ [0, 1, 2, 3, 4, 5] (by decide) rfl
 ·
  show J _ _ [(2, .pointer (some ⟨g1, 0, none⟩)), (3, .pointer (some ⟨g2, 0, none⟩)), (4, .pointer (some ⟨g3, 0, none⟩)), (5, .pointer (some ⟨g4, 0, none⟩)), (6, .pointer (some ⟨g7, 0, none⟩)), (7, .pointer (some ⟨g8, 0, none⟩)), (12, .agg #[.pointer (some ⟨g4, 0, none⟩), .pointer (some ⟨g4, 1, none⟩), .pointer (some ⟨g4, 2, none⟩), .pointer (some ⟨g4, 3, none⟩), .pointer (some ⟨g4, 4, none⟩), .pointer (some ⟨g4, 5, none⟩), .pointer (some ⟨g4, 6, none⟩), .pointer (some ⟨g4, 7, none⟩), .pointer (some ⟨g4, 8, none⟩), .pointer (some ⟨g4, 9, none⟩), .pointer (some ⟨g4, 10, none⟩), .pointer (some ⟨g4, 11, none⟩)]), (13, .int .i64 1)] [var g4 [.int .i64 (Rp.addC a.d0 b.d0), .int .i64 0, .int .i64 0, .int .i64 0, .int .i64 0, .int .i64 0, .int .i64 0, .int .i64 0, .int .i64 0, .int .i64 0, .int .i64 0, .int .i64 0] 23, var g1 [.int .i64 a.d0, .int .i64 a.d1, .int .i64 a.d2, .int .i64 a.d3, .int .i64 a.d4, .int .i64 a.d5, .int .i64 a.d6, .int .i64 a.d7, .int .i64 a.d8, .int .i64 a.d9, .int .i64 a.d10, .int .i64 a.d11] 23, var g2 [.int .i64 b.d0, .int .i64 b.d1, .int .i64 b.d2, .int .i64 b.d3, .int .i64 b.d4, .int .i64 b.d5, .int .i64 b.d6, .int .i64 b.d7, .int .i64 b.d8, .int .i64 b.d9, .int .i64 b.d10, .int .i64 b.d11] 23, var g3 [.int .i64 0, .int .i64 0, .int .i64 0, .int .i64 0, .int .i64 0, .int .i64 0, .int .i64 0, .int .i64 0, .int .i64 0, .int .i64 0, .int .i64 0, .int .i64 0] 23, var g7 [.pointer (some ⟨g1, 0, none⟩), .pointer (some ⟨g1, 1, none⟩), .pointer (some ⟨g1, 2, none⟩), .pointer (some ⟨g1, 3, none⟩), .pointer (some ⟨g1, 4, none⟩), .pointer (some ⟨g1, 5, none⟩), .pointer (some ⟨g1, 6, none⟩), .pointer (some ⟨g1, 7, none⟩), .pointer (some ⟨g1, 8, none⟩), .pointer (some ⟨g1, 9, none⟩), .pointer (some ⟨g1, 10, none⟩), .pointer (some ⟨g1, 11, none⟩)] 53, var g8 [.pointer (some ⟨g2, 0, none⟩), .pointer (some ⟨g2, 1, none⟩), .pointer (some ⟨g2, 2, none⟩), .pointer (some ⟨g2, 3, none⟩), .pointer (some ⟨g2, 4, none⟩), .pointer (some ⟨g2, 5, none⟩), .pointer (some ⟨g2, 6, none⟩), .pointer (some ⟨g2, 7, none⟩), .pointer (some ⟨g2, 8, none⟩), .pointer (some ⟨g2, 9, none⟩), .pointer (some ⟨g2, 10, none⟩), .pointer (some ⟨g2, 11, none⟩)] 53]
  refine J.seq ?_
  refine J.region ?_
  refine O.p (Pu.lss rfl rfl) rfl ?_
  refine O.nil ?_
  refine J.seq ?_
  refine J.condT rfl rfl ?_
  refine J.skip ?_
  refine J.seq ?_
  refine J.block ?_
  refine J.seq ?_
  refine J.region ?_
  refine O.p (Pu.move rfl) rfl ?_
  refine O.p (Pu.indexK1 (cs := [.pointer (some ⟨g4, 0, none⟩), .pointer (some ⟨g4, 1, none⟩), .pointer (some ⟨g4, 2, none⟩), .pointer (some ⟨g4, 3, none⟩), .pointer (some ⟨g4, 4, none⟩), .pointer (some ⟨g4, 5, none⟩), .pointer (some ⟨g4, 6, none⟩), .pointer (some ⟨g4, 7, none⟩), .pointer (some ⟨g4, 8, none⟩), .pointer (some ⟨g4, 9, none⟩), .pointer (some ⟨g4, 10, none⟩), .pointer (some ⟨g4, 11, none⟩)]) Tryz.runUnderlying53 Tryz.sizeOf52 Tryz.isAgg52 rfl rfl (by decide) (by decide) rfl) rfl ?_
  refine O.p (Pu.assign rfl) rfl ?_
  refine O.p (Pu.assign rfl) rfl ?_
  refine O.nil ?_
  refine J.drawHead 13 Tryz.mixed (by kernel_rfl) ?_
  refine Hd.p (Pu.move rfl) rfl ?_
  refine Hd.p (Pu.move rfl) rfl ?_
  refine Hd.p (Pu.indexAddrK 1 Tryz.runUnderlying53 Tryz.sizeOf52 rfl rfl (by decide) (by decide) rfl) rfl ?_
  refine Hd.q (Qt.ld rfl (Cel.var 4 rfl) (o := 0) (off := 1) rfl (Cut.one Tryz.isAgg52 rfl)) rfl ?_
  refine Hd.p (Pu.nilCheck rfl) rfl ?_
  refine Hd.q (Qt.ld rfl (Cel.var 1 rfl) (o := 0) (off := 1) rfl (Cut.one Tryz.isAgg3 rfl)) rfl ?_
  refine Hd.p (Pu.move rfl) rfl ?_
  refine Hd.p (Pu.indexAddrK 1 Tryz.runUnderlying53 Tryz.sizeOf52 rfl rfl (by decide) (by decide) rfl) rfl ?_
  refine Hd.q (Qt.ld rfl (Cel.var 5 rfl) (o := 0) (off := 1) rfl (Cut.one Tryz.isAgg52 rfl)) rfl ?_
  refine Hd.p (Pu.nilCheck rfl) rfl ?_
  refine Hd.q (Qt.ld rfl (Cel.var 2 rfl) (o := 0) (off := 1) rfl (Cut.one Tryz.isAgg3 rfl)) rfl ?_
  refine Hd.call (vs := [.int .i64 a.d1, .int .i64 b.d1]) (caps := []) (by exact Tryz.call29) rfl rfl (bd_Add a.d1 b.d1) (fun _ _ h => h) RoOk.nil rfl ?_
  refine Hd.p (Pu.nilCheck rfl) rfl ?_
  refine Hd.nil ?_
  refine O.l0 (Lo.store 0 (vs := [.int .i64 (Rp.addC a.d1 b.d1)]) [.int .i64 (Rp.addC a.d0 b.d0), .int .i64 (Rp.addC a.d1 b.d1), .int .i64 0, .int .i64 0, .int .i64 0, .int .i64 0, .int .i64 0, .int .i64 0, .int .i64 0, .int .i64 0, .int .i64 0, .int .i64 0] rfl rfl rfl (by exact Tryz.sizeOf3) rfl rfl rfl rfl rfl) ?_
  rintro _ _ rfl
  refine O.nil ?_
  refine J.blk ?_
  refine J.region ?_
  refine O.p (Pu.add' rfl rfl (by first | omega | (simp only [List.length_append, List.length_cons, List.length_nil, List.length_set]; omega))) rfl ?_
  refine O.p (Pu.move rfl) rfl ?_
  refine O.nil ?_
  exact J.lp 2 (show 2 ≤ 12 from (by omega)) (show 12 - 2 < 12 - 1 from (by first | omega | decide | (simp; done) | (simp only [List.length_append, List.length_cons, List.length_nil, List.length_take]; omega))) ⟨rfl, rfl, rfl, rfl, rfl, rfl, rfl, (congrArg (fun z => some (Value.int .i64 z)) (by first | rfl | omega : (1 + 1 : Int) = (2 : Int))), trivial⟩ [0, 1, 2, 3, 4, 5] (by decide) rfl
 ·
  show J _ _ [(2, .pointer (some ⟨g1, 0, none⟩)), (3, .pointer (some ⟨g2, 0, none⟩)), (4, .pointer (some ⟨g3, 0, none⟩)), (5, .pointer (some ⟨g4, 0, none⟩)), (6, .pointer (some ⟨g7, 0, none⟩)), (7, .pointer (some ⟨g8, 0, none⟩)), (12, .agg #[.pointer (some ⟨g4, 0, none⟩), .pointer (some ⟨g4, 1, none⟩), .pointer (some ⟨g4, 2, none⟩), .pointer (some ⟨g4, 3, none⟩), .pointer (some ⟨g4, 4, none⟩), .pointer (some ⟨g4, 5, none⟩), .pointer (some ⟨g4, 6, none⟩), .pointer (some ⟨g4, 7, none⟩), .pointer (some ⟨g4, 8, none⟩), .pointer (some ⟨g4, 9, none⟩), .pointer (some ⟨g4, 10, none⟩), .pointer (some ⟨g4, 11, none⟩)]), (13, .int .i64 2)] [var g4 [.int .i64 (Rp.addC a.d0 b.d0), .int .i64 (Rp.addC a.d1 b.d1), .int .i64 0, .int .i64 0, .int .i64 0, .int .i64 0, .int .i64 0, .int .i64 0, .int .i64 0, .int .i64 0, .int .i64 0, .int .i64 0] 23, var g1 [.int .i64 a.d0, .int .i64 a.d1, .int .i64 a.d2, .int .i64 a.d3, .int .i64 a.d4, .int .i64 a.d5, .int .i64 a.d6, .int .i64 a.d7, .int .i64 a.d8, .int .i64 a.d9, .int .i64 a.d10, .int .i64 a.d11] 23, var g2 [.int .i64 b.d0, .int .i64 b.d1, .int .i64 b.d2, .int .i64 b.d3, .int .i64 b.d4, .int .i64 b.d5, .int .i64 b.d6, .int .i64 b.d7, .int .i64 b.d8, .int .i64 b.d9, .int .i64 b.d10, .int .i64 b.d11] 23, var g3 [.int .i64 0, .int .i64 0, .int .i64 0, .int .i64 0, .int .i64 0, .int .i64 0, .int .i64 0, .int .i64 0, .int .i64 0, .int .i64 0, .int .i64 0, .int .i64 0] 23, var g7 [.pointer (some ⟨g1, 0, none⟩), .pointer (some ⟨g1, 1, none⟩), .pointer (some ⟨g1, 2, none⟩), .pointer (some ⟨g1, 3, none⟩), .pointer (some ⟨g1, 4, none⟩), .pointer (some ⟨g1, 5, none⟩), .pointer (some ⟨g1, 6, none⟩), .pointer (some ⟨g1, 7, none⟩), .pointer (some ⟨g1, 8, none⟩), .pointer (some ⟨g1, 9, none⟩), .pointer (some ⟨g1, 10, none⟩), .pointer (some ⟨g1, 11, none⟩)] 53, var g8 [.pointer (some ⟨g2, 0, none⟩), .pointer (some ⟨g2, 1, none⟩), .pointer (some ⟨g2, 2, none⟩), .pointer (some ⟨g2, 3, none⟩), .pointer (some ⟨g2, 4, none⟩), .pointer (some ⟨g2, 5, none⟩), .pointer (some ⟨g2, 6, none⟩), .pointer (some ⟨g2, 7, none⟩), .pointer (some ⟨g2, 8, none⟩), .pointer (some ⟨g2, 9, none⟩), .pointer (some ⟨g2, 10, none⟩), .pointer (some ⟨g2, 11, none⟩)] 53]
  refine J.seq ?_
  refine J.region ?_
  refine O.p (Pu.lss rfl rfl) rfl ?_
  refine O.nil ?_
  refine J.seq ?_
  refine J.condT rfl rfl ?_
  refine J.skip ?_
  refine J.seq ?_
  refine J.block ?_
  refine J.seq ?_
  refine J.region ?_
  refine O.p (Pu.move rfl) rfl ?_
  refine O.p (Pu.indexK1 (cs := [.pointer (some ⟨g4, 0, none⟩), .pointer (some ⟨g4, 1, none⟩), .pointer (some ⟨g4, 2, none⟩), .pointer (some ⟨g4, 3, none⟩), .pointer (some ⟨g4, 4, none⟩), .pointer (some ⟨g4, 5, none⟩), .pointer (some ⟨g4, 6, none⟩), .pointer (some ⟨g4, 7, none⟩), .pointer (some ⟨g4, 8, none⟩), .pointer (some ⟨g4, 9, none⟩), .pointer (some ⟨g4, 10, none⟩), .pointer (some ⟨g4, 11, none⟩)]) Tryz.runUnderlying53 Tryz.sizeOf52 Tryz.isAgg52 rfl rfl (by decide) (by decide) rfl) rfl ?_
  refine O.p (Pu.assign rfl) rfl ?_
  refine O.p (Pu.assign rfl) rfl ?_
  refine O.nil ?_
  refine J.drawHead 13 Tryz.mixed (by kernel_rfl) ?_
  refine Hd.p (Pu.move rfl) rfl ?_
  refine Hd.p (Pu.move rfl) rfl ?_
  refine Hd.p (Pu.indexAddrK 2 Tryz.runUnderlying53 Tryz.sizeOf52 rfl rfl (by decide) (by decide) rfl) rfl ?_
  refine Hd.q (Qt.ld rfl (Cel.var 4 rfl) (o := 0) (off := 2) rfl (Cut.one Tryz.isAgg52 rfl)) rfl ?_
  refine Hd.p (Pu.nilCheck rfl) rfl ?_
  refine Hd.q (Qt.ld rfl (Cel.var 1 rfl) (o := 0) (off := 2) rfl (Cut.one Tryz.isAgg3 rfl)) rfl ?_
  refine Hd.p (Pu.move rfl) rfl ?_
  refine Hd.p (Pu.indexAddrK 2 Tryz.runUnderlying53 Tryz.sizeOf52 rfl rfl (by decide) (by decide) rfl) rfl ?_
  refine Hd.q (Qt.ld rfl (Cel.var 5 rfl) (o := 0) (off := 2) rfl (Cut.one Tryz.isAgg52 rfl)) rfl ?_
  refine Hd.p (Pu.nilCheck rfl) rfl ?_
  refine Hd.q (Qt.ld rfl (Cel.var 2 rfl) (o := 0) (off := 2) rfl (Cut.one Tryz.isAgg3 rfl)) rfl ?_
  refine Hd.call (vs := [.int .i64 a.d2, .int .i64 b.d2]) (caps := []) (by exact Tryz.call29) rfl rfl (bd_Add a.d2 b.d2) (fun _ _ h => h) RoOk.nil rfl ?_
  refine Hd.p (Pu.nilCheck rfl) rfl ?_
  refine Hd.nil ?_
  refine O.l0 (Lo.store 0 (vs := [.int .i64 (Rp.addC a.d2 b.d2)]) [.int .i64 (Rp.addC a.d0 b.d0), .int .i64 (Rp.addC a.d1 b.d1), .int .i64 (Rp.addC a.d2 b.d2), .int .i64 0, .int .i64 0, .int .i64 0, .int .i64 0, .int .i64 0, .int .i64 0, .int .i64 0, .int .i64 0, .int .i64 0] rfl rfl rfl (by exact Tryz.sizeOf3) rfl rfl rfl rfl rfl) ?_
  rintro _ _ rfl
  refine O.nil ?_
  refine J.blk ?_
  refine J.region ?_
  refine O.p (Pu.add' rfl rfl (by first | omega | (simp only [List.length_append, List.length_cons, List.length_nil, List.length_set]; omega))) rfl ?_
  refine O.p (Pu.move rfl) rfl ?_
  refine O.nil ?_
  exact J.lp 3 (show 3 ≤ 12 from (by omega)) (show 12 - 3 < 12 - 2 from (by first | omega | decide | (simp; done) | (simp only [List.length_append, List.length_cons, List.length_nil, List.length_take]; omega))) ⟨rfl, rfl, rfl, rfl, rfl, rfl, rfl, (congrArg (fun z => some (Value.int .i64 z)) (by first | rfl | omega : (2 + 1 : Int) = (3 : Int))), trivial⟩ [0, 1, 2, 3, 4, 5] (by decide) rfl
 ·
  show J _ _ [(2, .pointer (some ⟨g1, 0, none⟩)), (3, .pointer (some ⟨g2, 0, none⟩)), (4, .pointer (some ⟨g3, 0, none⟩)), (5, .pointer (some ⟨g4, 0, none⟩)), (6, .pointer (some ⟨g7, 0, none⟩)), (7, .pointer (some ⟨g8, 0, none⟩)), (12, .agg #[.pointer (some ⟨g4, 0, none⟩), .pointer (some ⟨g4, 1, none⟩), .pointer (some ⟨g4, 2, none⟩), .pointer (some ⟨g4, 3, none⟩), .pointer (some ⟨g4, 4, none⟩), .pointer (some ⟨g4, 5, none⟩), .pointer (some ⟨g4, 6, none⟩), .pointer (some ⟨g4, 7, none⟩), .pointer (some ⟨g4, 8, none⟩), .pointer (some ⟨g4, 9, none⟩), .pointer (some ⟨g4, 10, none⟩), .pointer (some ⟨g4, 11, none⟩)]), (13, .int .i64 3)] [var g4 [.int .i64 (Rp.addC a.d0 b.d0), .int .i64 (Rp.addC a.d1 b.d1), .int .i64 (Rp.addC a.d2 b.d2), .int .i64 0, .int .i64 0, .int .i64 0, .int .i64 0, .int .i64 0, .int .i64 0, .int .i64 0, .int .i64 0, .int .i64 0] 23, var g1 [.int .i64 a.d0, .int .i64 a.d1, .int .i64 a.d2, .int .i64 a.d3, .int .i64 a.d4, .int .i64 a.d5, .int .i64 a.d6, .int .i64 a.d7, .int .i64 a.d8, .int .i64 a.d9, .int .i64 a.d10, .int .i64 a.d11] 23, var g2 [.int .i64 b.d0, .int .i64 b.d1, .int .i64 b.d2, .int .i64 b.d3, .int .i64 b.d4, .int .i64 b.d5, .int .i64 b.d6, .int .i64 b.d7, .int .i64 b.d8, .int .i64 b.d9, .int .i64 b.d10, .int .i64 b.d11] 23, var g3 [.int .i64 0, .int .i64 0, .int .i64 0, .int .i64 0, .int .i64 0, .int .i64 0, .int .i64 0, .int .i64 0, .int .i64 0, .int .i64 0, .int .i64 0, .int .i64 0] 23, var g7 [.pointer (some ⟨g1, 0, none⟩), .pointer (some ⟨g1, 1, none⟩), .pointer (some ⟨g1, 2, none⟩), .pointer (some ⟨g1, 3, none⟩), .pointer (some ⟨g1, 4, none⟩), .pointer (some ⟨g1, 5, none⟩), .pointer (some ⟨g1, 6, none⟩), .pointer (some ⟨g1, 7, none⟩), .pointer (some ⟨g1, 8, none⟩), .pointer (some ⟨g1, 9, none⟩), .pointer (some ⟨g1, 10, none⟩), .pointer (some ⟨g1, 11, none⟩)] 53, var g8 [.pointer (some ⟨g2, 0, none⟩), .pointer (some ⟨g2, 1, none⟩), .pointer (some ⟨g2, 2, none⟩), .pointer (some ⟨g2, 3, none⟩), .pointer (some ⟨g2, 4, none⟩), .pointer (some ⟨g2, 5, none⟩), .pointer (some ⟨g2, 6, none⟩), .pointer (some ⟨g2, 7, none⟩), .pointer (some ⟨g2, 8, none⟩), .pointer (some ⟨g2, 9, none⟩), .pointer (some ⟨g2, 10, none⟩), .pointer (some ⟨g2, 11, none⟩)] 53]
  refine J.seq ?_
  refine J.region ?_
  refine O.p (Pu.lss rfl rfl) rfl ?_
  refine O.nil ?_
  refine J.seq ?_
  refine J.condT rfl rfl ?_
  refine J.skip ?_
  refine J.seq ?_
  refine J.block ?_
  refine J.seq ?_
  refine J.region ?_
  refine O.p (Pu.move rfl) rfl ?_
  refine O.p (Pu.indexK1 (cs := [.pointer (some ⟨g4, 0, none⟩), .pointer (some ⟨g4, 1, none⟩), .pointer (some ⟨g4, 2, none⟩), .pointer (some ⟨g4, 3, none⟩), .pointer (some ⟨g4, 4, none⟩), .pointer (some ⟨g4, 5, none⟩), .pointer (some ⟨g4, 6, none⟩), .pointer (some ⟨g4, 7, none⟩), .pointer (some ⟨g4, 8, none⟩), .pointer (some ⟨g4, 9, none⟩), .pointer (some ⟨g4, 10, none⟩), .pointer (some ⟨g4, 11, none⟩)]) Tryz.runUnderlying53 Tryz.sizeOf52 Tryz.isAgg52 rfl rfl (by decide) (by decide) rfl) rfl ?_
  refine O.p (Pu.assign rfl) rfl ?_
  refine O.p (Pu.assign rfl) rfl ?_
  refine O.nil ?_
  refine J.drawHead 13 Tryz.mixed (by kernel_rfl) ?_
  refine Hd.p (Pu.move rfl) rfl ?_
  refine Hd.p (Pu.move rfl) rfl ?_
  refine Hd.p (Pu.indexAddrK 3 Tryz.runUnderlying53 Tryz.sizeOf52 rfl rfl (by decide) (by decide) rfl) rfl ?_
  refine Hd.q (Qt.ld rfl (Cel.var 4 rfl) (o := 0) (off := 3) rfl (Cut.one Tryz.isAgg52 rfl)) rfl ?_
  refine Hd.p (Pu.nilCheck rfl) rfl ?_
  refine Hd.q (Qt.ld rfl (Cel.var 1 rfl) (o := 0) (off := 3) rfl (Cut.one Tryz.isAgg3 rfl)) rfl ?_
  refine Hd.p (Pu.move rfl) rfl ?_
  refine Hd.p (Pu.indexAddrK 3 Tryz.runUnderlying53 Tryz.sizeOf52 rfl rfl (by decide) (by decide) rfl) rfl ?_
  refine Hd.q (Qt.ld rfl (Cel.var 5 rfl) (o := 0) (off := 3) rfl (Cut.one Tryz.isAgg52 rfl)) rfl ?_
  refine Hd.p (Pu.nilCheck rfl) rfl ?_
  refine Hd.q (Qt.ld rfl (Cel.var 2 rfl) (o := 0) (off := 3) rfl (Cut.one Tryz.isAgg3 rfl)) rfl ?_
  refine Hd.call (vs := [.int .i64 a.d3, .int .i64 b.d3]) (caps := []) (by exact Tryz.call29) rfl rfl (bd_Add a.d3 b.d3) (fun _ _ h => h) RoOk.nil rfl ?_
  refine Hd.p (Pu.nilCheck rfl) rfl ?_
  refine Hd.nil ?_
  refine O.l0 (Lo.store 0 (vs := [.int .i64 (Rp.addC a.d3 b.d3)]) [.int .i64 (Rp.addC a.d0 b.d0), .int .i64 (Rp.addC a.d1 b.d1), .int .i64 (Rp.addC a.d2 b.d2), .int .i64 (Rp.addC a.d3 b.d3), .int .i64 0, .int .i64 0, .int .i64 0, .int .i64 0, .int .i64 0, .int .i64 0, .int .i64 0, .int .i64 0] rfl rfl rfl (by exact Tryz.sizeOf3) rfl rfl rfl rfl rfl) ?_
  rintro _ _ rfl
  refine O.nil ?_
  refine J.blk ?_
  refine J.region ?_
  refine O.p (Pu.add' rfl rfl (by first | omega | (simp only [List.length_append, List.length_cons, List.length_nil, List.length_set]; omega))) rfl ?_
  refine O.p (Pu.move rfl) rfl ?_
  refine O.nil ?_
  exact J.lp 4 (show 4 ≤ 12 from (by omega)) (show 12 - 4 < 12 - 3 from (by first | omega | decide | (simp; done) | (simp only [List.length_append, List.length_cons, List.length_nil, List.length_take]; omega))) ⟨rfl, rfl, rfl, rfl, rfl, rfl, rfl, (congrArg (fun z => some (Value.int .i64 z)) (by first | rfl | omega : (3 + 1 : Int) = (4 : Int))), trivial⟩ [0, 1, 2, 3, 4, 5] (by decide) rfl
 ·
  show J _ _ [(2, .pointer (some ⟨g1, 0, none⟩)), (3, .pointer (some ⟨g2, 0, none⟩)), (4, .pointer (some ⟨g3, 0, none⟩)), (5, .pointer (some ⟨g4, 0, none⟩)), (6, .pointer (some ⟨g7, 0, none⟩)), (7, .pointer (some ⟨g8, 0, none⟩)), (12, .agg #[.pointer (some ⟨g4, 0, none⟩), .pointer (some ⟨g4, 1, none⟩), .pointer (some ⟨g4, 2, none⟩), .pointer (some ⟨g4, 3, none⟩), .pointer (some ⟨g4, 4, none⟩), .pointer (some ⟨g4, 5, none⟩), .pointer (some ⟨g4, 6, none⟩), .pointer (some ⟨g4, 7, none⟩), .pointer (some ⟨g4, 8, none⟩), .pointer (some ⟨g4, 9, none⟩), .pointer (some ⟨g4, 10, none⟩), .pointer (some ⟨g4, 11, none⟩)]), (13, .int .i64 4)] [var g4 [.int .i64 (Rp.addC a.d0 b.d0), .int .i64 (Rp.addC a.d1 b.d1), .int .i64 (Rp.addC a.d2 b.d2), .int .i64 (Rp.addC a.d3 b.d3), .int .i64 0, .int .i64 0, .int .i64 0, .int .i64 0, .int .i64 0, .int .i64 0, .int .i64 0, .int .i64 0] 23, var g1 [.int .i64 a.d0, .int .i64 a.d1, .int .i64 a.d2, .int .i64 a.d3, .int .i64 a.d4, .int .i64 a.d5, .int .i64 a.d6, .int .i64 a.d7, .int .i64 a.d8, .int .i64 a.d9, .int .i64 a.d10, .int .i64 a.d11] 23, var g2 [.int .i64 b.d0, .int .i64 b.d1, .int .i64 b.d2, .int .i64 b.d3, .int .i64 b.d4, .int .i64 b.d5, .int .i64 b.d6, .int .i64 b.d7, .int .i64 b.d8, .int .i64 b.d9, .int .i64 b.d10, .int .i64 b.d11] 23, var g3 [.int .i64 0, .int .i64 0, .int .i64 0, .int .i64 0, .int .i64 0, .int .i64 0, .int .i64 0, .int .i64 0, .int .i64 0, .int .i64 0, .int .i64 0, .int .i64 0] 23, var g7 [.pointer (some ⟨g1, 0, none⟩), .pointer (some ⟨g1, 1, none⟩), .pointer (some ⟨g1, 2, none⟩), .pointer (some ⟨g1, 3, none⟩), .pointer (some ⟨g1, 4, none⟩), .pointer (some ⟨g1, 5, none⟩), .pointer (some ⟨g1, 6, none⟩), .pointer (some ⟨g1, 7, none⟩), .pointer (some ⟨g1, 8, none⟩), .pointer (some ⟨g1, 9, none⟩), .pointer (some ⟨g1, 10, none⟩), .pointer (some ⟨g1, 11, none⟩)] 53, var g8 [.pointer (some ⟨g2, 0, none⟩), .pointer (some ⟨g2, 1, none⟩), .pointer (some ⟨g2, 2, none⟩), .pointer (some ⟨g2, 3, none⟩), .pointer (some ⟨g2, 4, none⟩), .pointer (some ⟨g2, 5, none⟩), .pointer (some ⟨g2, 6, none⟩), .pointer (some ⟨g2, 7, none⟩), .pointer (some ⟨g2, 8, none⟩), .pointer (some ⟨g2, 9, none⟩), .pointer (some ⟨g2, 10, none⟩), .pointer (some ⟨g2, 11, none⟩)] 53]
  refine J.seq ?_
  refine J.region ?_
  refine O.p (Pu.lss rfl rfl) rfl ?_
  refine O.nil ?_
  refine J.seq ?_
  refine J.condT rfl rfl ?_
  refine J.skip ?_
  refine J.seq ?_
  refine J.block ?_
  refine J.seq ?_
  refine J.region ?_
  refine O.p (Pu.move rfl) rfl ?_
  refine O.p (Pu.indexK1 (cs := [.pointer (some ⟨g4, 0, none⟩), .pointer (some ⟨g4, 1, none⟩), .pointer (some ⟨g4, 2, none⟩), .pointer (some ⟨g4, 3, none⟩), .pointer (some ⟨g4, 4, none⟩), .pointer (some ⟨g4, 5, none⟩), .pointer (some ⟨g4, 6, none⟩), .pointer (some ⟨g4, 7, none⟩), .pointer (some ⟨g4, 8, none⟩), .pointer (some ⟨g4, 9, none⟩), .pointer (some ⟨g4, 10, none⟩), .pointer (some ⟨g4, 11, none⟩)]) Tryz.runUnderlying53 Tryz.sizeOf52 Tryz.isAgg52 rfl rfl (by decide) (by decide) rfl) rfl ?_
  refine O.p (Pu.assign rfl) rfl ?_
  refine O.p (Pu.assign rfl) rfl ?_
  refine O.nil ?_
  refine J.drawHead 13 Tryz.mixed (by kernel_rfl) ?_
  refine Hd.p (Pu.move rfl) rfl ?_
  refine Hd.p (Pu.move rfl) rfl ?_
  refine Hd.p (Pu.indexAddrK 4 Tryz.runUnderlying53 Tryz.sizeOf52 rfl rfl (by decide) (by decide) rfl) rfl ?_
  refine Hd.q (Qt.ld rfl (Cel.var 4 rfl) (o := 0) (off := 4) rfl (Cut.one Tryz.isAgg52 rfl)) rfl ?_
  refine Hd.p (Pu.nilCheck rfl) rfl ?_
  refine Hd.q (Qt.ld rfl (Cel.var 1 rfl) (o := 0) (off := 4) rfl (Cut.one Tryz.isAgg3 rfl)) rfl ?_
  refine Hd.p (Pu.move rfl) rfl ?_
  refine Hd.p (Pu.indexAddrK 4 Tryz.runUnderlying53 Tryz.sizeOf52 rfl rfl (by decide) (by decide) rfl) rfl ?_
  refine Hd.q (Qt.ld rfl (Cel.var 5 rfl) (o := 0) (off := 4) rfl (Cut.one Tryz.isAgg52 rfl)) rfl ?_
  refine Hd.p (Pu.nilCheck rfl) rfl ?_
  refine Hd.q (Qt.ld rfl (Cel.var 2 rfl) (o := 0) (off := 4) rfl (Cut.one Tryz.isAgg3 rfl)) rfl ?_
  refine Hd.call (vs := [.int .i64 a.d4, .int .i64 b.d4]) (caps := []) (by exact Tryz.call29) rfl rfl (bd_Add a.d4 b.d4) (fun _ _ h => h) RoOk.nil rfl ?_
  refine Hd.p (Pu.nilCheck rfl) rfl ?_
  refine Hd.nil ?_
  refine O.l0 (Lo.store 0 (vs := [.int .i64 (Rp.addC a.d4 b.d4)]) [.int .i64 (Rp.addC a.d0 b.d0), .int .i64 (Rp.addC a.d1 b.d1), .int .i64 (Rp.addC a.d2 b.d2), .int .i64 (Rp.addC a.d3 b.d3), .int .i64 (Rp.addC a.d4 b.d4), .int .i64 0, .int .i64 0, .int .i64 0, .int .i64 0, .int .i64 0, .int .i64 0, .int .i64 0] rfl rfl rfl (by exact Tryz.sizeOf3) rfl rfl rfl rfl rfl) ?_
  rintro _ _ rfl
  refine O.nil ?_
  refine J.blk ?_
  refine J.region ?_
  refine O.p (Pu.add' rfl rfl (by first | omega | (simp only [List.length_append, List.length_cons, List.length_nil, List.length_set]; omega))) rfl ?_
  refine O.p (Pu.move rfl) rfl ?_
  refine O.nil ?_
  exact J.lp 5 (show 5 ≤ 12 from (by omega)) (show 12 - 5 < 12 - 4 from (by first | omega | decide | (simp; done) | (simp only [List.length_append, List.length_cons, List.length_nil, List.length_take]; omega))) ⟨rfl, rfl, rfl, rfl, rfl, rfl, rfl, (congrArg (fun z => some (Value.int .i64 z)) (by first | rfl | omega : (4 + 1 : Int) = (5 : Int))), trivial⟩ [0, 1, 2, 3, 4, 5] (by decide) rfl
 ·
  show J _ _ [(2, .pointer (some ⟨g1, 0, none⟩)), (3, .pointer (some ⟨g2, 0, none⟩)), (4, .pointer (some ⟨g3, 0, none⟩)), (5, .pointer (some ⟨g4, 0, none⟩)), (6, .pointer (some ⟨g7, 0, none⟩)), (7, .pointer (some ⟨g8, 0, none⟩)), (12, .agg #[.pointer (some ⟨g4, 0, none⟩), .pointer (some ⟨g4, 1, none⟩), .pointer (some ⟨g4, 2, none⟩), .pointer (some ⟨g4, 3, none⟩), .pointer (some ⟨g4, 4, none⟩), .pointer (some ⟨g4, 5, none⟩), .pointer (some ⟨g4, 6, none⟩), .pointer (some ⟨g4, 7, none⟩), .pointer (some ⟨g4, 8, none⟩), .pointer (some ⟨g4, 9, none⟩), .pointer (some ⟨g4, 10, none⟩), .pointer (some ⟨g4, 11, none⟩)]), (13, .int .i64 5)] [var g4 [.int .i64 (Rp.addC a.d0 b.d0), .int .i64 (Rp.addC a.d1 b.d1), .int .i64 (Rp.addC a.d2 b.d2), .int .i64 (Rp.addC a.d3 b.d3), .int .i64 (Rp.addC a.d4 b.d4), .int .i64 0, .int .i64 0, .int .i64 0, .int .i64 0, .int .i64 0, .int .i64 0, .int .i64 0] 23, var g1 [.int .i64 a.d0, .int .i64 a.d1, .int .i64 a.d2, .int .i64 a.d3, .int .i64 a.d4, .int .i64 a.d5, .int .i64 a.d6, .int .i64 a.d7, .int .i64 a.d8, .int .i64 a.d9, .int .i64 a.d10, .int .i64 a.d11] 23, var g2 [.int .i64 b.d0, .int .i64 b.d1, .int .i64 b.d2, .int .i64 b.d3, .int .i64 b.d4, .int .i64 b.d5, .int .i64 b.d6, .int .i64 b.d7, .int .i64 b.d8, .int .i64 b.d9, .int .i64 b.d10, .int .i64 b.d11] 23, var g3 [.int .i64 0, .int .i64 0, .int .i64 0, .int .i64 0, .int .i64 0, .int .i64 0, .int .i64 0, .int .i64 0, .int .i64 0, .int .i64 0, .int .i64 0, .int .i64 0] 23, var g7 [.pointer (some ⟨g1, 0, none⟩), .pointer (some ⟨g1, 1, none⟩), .pointer (some ⟨g1, 2, none⟩), .pointer (some ⟨g1, 3, none⟩), .pointer (some ⟨g1, 4, none⟩), .pointer (some ⟨g1, 5, none⟩), .pointer (some ⟨g1, 6, none⟩), .pointer (some ⟨g1, 7, none⟩), .pointer (some ⟨g1, 8, none⟩), .pointer (some ⟨g1, 9, none⟩), .pointer (some ⟨g1, 10, none⟩), .pointer (some ⟨g1, 11, none⟩)] 53, var g8 [.pointer (some ⟨g2, 0, none⟩), .pointer (some ⟨g2, 1, none⟩), .pointer (some ⟨g2, 2, none⟩), .pointer (some ⟨g2, 3, none⟩), .pointer (some ⟨g2, 4, none⟩), .pointer (some ⟨g2, 5, none⟩), .pointer (some ⟨g2, 6, none⟩), .pointer (some ⟨g2, 7, none⟩), .pointer (some ⟨g2, 8, none⟩), .pointer (some ⟨g2, 9, none⟩), .pointer (some ⟨g2, 10, none⟩), .pointer (some ⟨g2, 11, none⟩)] 53]
  refine J.seq ?_
  refine J.region ?_
  refine O.p (Pu.lss rfl rfl) rfl ?_
  refine O.nil ?_
  refine J.seq ?_
  refine J.condT rfl rfl ?_
  refine J.skip ?_
  refine J.seq ?_
  refine J.block ?_
  refine J.seq ?_
  refine J.region ?_
  refine O.p (Pu.move rfl) rfl ?_
  refine O.p (Pu.indexK1 (cs := [.pointer (some ⟨g4, 0, none⟩), .pointer (some ⟨g4, 1, none⟩), .pointer (some ⟨g4, 2, none⟩), .pointer (some ⟨g4, 3, none⟩), .pointer (some ⟨g4, 4, none⟩), .pointer (some ⟨g4, 5, none⟩), .pointer (some ⟨g4, 6, none⟩), .pointer (some ⟨g4, 7, none⟩), .pointer (some ⟨g4, 8, none⟩), .pointer (some ⟨g4, 9, none⟩), .pointer (some ⟨g4, 10, none⟩), .pointer (some ⟨g4, 11, none⟩)]) Tryz.runUnderlying53 Tryz.sizeOf52 Tryz.isAgg52 rfl rfl (by decide) (by decide) rfl) rfl ?_
  refine O.p (Pu.assign rfl) rfl ?_
  refine O.p (Pu.assign rfl) rfl ?_
  refine O.nil ?_
  refine J.drawHead 13 Tryz.mixed (by kernel_rfl) ?_
  refine Hd.p (Pu.move rfl) rfl ?_
  refine Hd.p (Pu.move rfl) rfl ?_
  refine Hd.p (Pu.indexAddrK 5 Tryz.runUnderlying53 Tryz.sizeOf52 rfl rfl (by decide) (by decide) rfl) rfl ?_
  refine Hd.q (Qt.ld rfl (Cel.var 4 rfl) (o := 0) (off := 5) rfl (Cut.one Tryz.isAgg52 rfl)) rfl ?_
  refine Hd.p (Pu.nilCheck rfl) rfl ?_
  refine Hd.q (Qt.ld rfl (Cel.var 1 rfl) (o := 0) (off := 5) rfl (Cut.one Tryz.isAgg3 rfl)) rfl ?_
  refine Hd.p (Pu.move rfl) rfl ?_
  refine Hd.p (Pu.indexAddrK 5 Tryz.runUnderlying53 Tryz.sizeOf52 rfl rfl (by decide) (by decide) rfl) rfl ?_
  refine Hd.q (Qt.ld rfl (Cel.var 5 rfl) (o := 0) (off := 5) rfl (Cut.one Tryz.isAgg52 rfl)) rfl ?_
  refine Hd.p (Pu.nilCheck rfl) rfl ?_
  refine Hd.q (Qt.ld rfl (Cel.var 2 rfl) (o := 0) (off := 5) rfl (Cut.one Tryz.isAgg3 rfl)) rfl ?_
  refine Hd.call (vs := [.int .i64 a.d5, .int .i64 b.d5]) (caps := []) (by exact Tryz.call29) rfl rfl (bd_Add a.d5 b.d5) (fun _ _ h => h) RoOk.nil rfl ?_
  refine Hd.p (Pu.nilCheck rfl) rfl ?_
  refine Hd.nil ?_
  refine O.l0 (Lo.store 0 (vs := [.int .i64 (Rp.addC a.d5 b.d5)]) [.int .i64 (Rp.addC a.d0 b.d0), .int .i64 (Rp.addC a.d1 b.d1), .int .i64 (Rp.addC a.d2 b.d2), .int .i64 (Rp.addC a.d3 b.d3), .int .i64 (Rp.addC a.d4 b.d4), .int .i64 (Rp.addC a.d5 b.d5), .int .i64 0, .int .i64 0, .int .i64 0, .int .i64 0, .int .i64 0, .int .i64 0] rfl rfl rfl (by exact Tryz.sizeOf3) rfl rfl rfl rfl rfl) ?_
  rintro _ _ rfl
  refine O.nil ?_
  refine J.blk ?_
  refine J.region ?_
  refine O.p (Pu.add' rfl rfl (by first | omega | (simp only [List.length_append, List.length_cons, List.length_nil, List.length_set]; omega))) rfl ?_
  refine O.p (Pu.move rfl) rfl ?_
  refine O.nil ?_
  exact J.lp 6 (show 6 ≤ 12 from (by omega)) (show 12 - 6 < 12 - 5 from (by first | omega | decide | (simp; done) | (simp only [List.length_append, List.length_cons, List.length_nil, List.length_take]; omega))) ⟨rfl, rfl, rfl, rfl, rfl, rfl, rfl, (congrArg (fun z => some (Value.int .i64 z)) (by first | rfl | omega : (5 + 1 : Int) = (6 : Int))), trivial⟩ [0, 1, 2, 3, 4, 5] (by decide) rfl
 ·
  show J _ _ [(2, .pointer (some ⟨g1, 0, none⟩)), (3, .pointer (some ⟨g2, 0, none⟩)), (4, .pointer (some ⟨g3, 0, none⟩)), (5, .pointer (some ⟨g4, 0, none⟩)), (6, .pointer (some ⟨g7, 0, none⟩)), (7, .pointer (some ⟨g8, 0, none⟩)), (12, .agg #[.pointer (some ⟨g4, 0, none⟩), .pointer (some ⟨g4, 1, none⟩), .pointer (some ⟨g4, 2, none⟩), .pointer (some ⟨g4, 3, none⟩), .pointer (some ⟨g4, 4, none⟩), .pointer (some ⟨g4, 5, none⟩), .pointer (some ⟨g4, 6, none⟩), .pointer (some ⟨g4, 7, none⟩), .pointer (some ⟨g4, 8, none⟩), .pointer (some ⟨g4, 9, none⟩), .pointer (some ⟨g4, 10, none⟩), .pointer (some ⟨g4, 11, none⟩)]), (13, .int .i64 6)] [var g4 [.int .i64 (Rp.addC a.d0 b.d0), .int .i64 (Rp.addC a.d1 b.d1), .int .i64 (Rp.addC a.d2 b.d2), .int .i64 (Rp.addC a.d3 b.d3), .int .i64 (Rp.addC a.d4 b.d4), .int .i64 (Rp.addC a.d5 b.d5), .int .i64 0, .int .i64 0, .int .i64 0, .int .i64 0, .int .i64 0, .int .i64 0] 23, var g1 [.int .i64 a.d0, .int .i64 a.d1, .int .i64 a.d2, .int .i64 a.d3, .int .i64 a.d4, .int .i64 a.d5, .int .i64 a.d6, .int .i64 a.d7, .int .i64 a.d8, .int .i64 a.d9, .int .i64 a.d10, .int .i64 a.d11] 23, var g2 [.int .i64 b.d0, .int .i64 b.d1, .int .i64 b.d2, .int .i64 b.d3, .int .i64 b.d4, .int .i64 b.d5, .int .i64 b.d6, .int .i64 b.d7, .int .i64 b.d8, .int .i64 b.d9, .int .i64 b.d10, .int .i64 b.d11] 23, var g3 [.int .i64 0, .int .i64 0, .int .i64 0, .int .i64 0, .int .i64 0, .int .i64 0, .int .i64 0, .int .i64 0, .int .i64 0, .int .i64 0, .int .i64 0, .int .i64 0] 23, var g7 [.pointer (some ⟨g1, 0, none⟩), .pointer (some ⟨g1, 1, none⟩), .pointer (some ⟨g1, 2, none⟩), .pointer (some ⟨g1, 3, none⟩), .pointer (some ⟨g1, 4, none⟩), .pointer (some ⟨g1, 5, none⟩), .pointer (some ⟨g1, 6, none⟩), .pointer (some ⟨g1, 7, none⟩), .pointer (some ⟨g1, 8, none⟩), .pointer (some ⟨g1, 9, none⟩), .pointer (some ⟨g1, 10, none⟩), .pointer (some ⟨g1, 11, none⟩)] 53, var g8 [.pointer (some ⟨g2, 0, none⟩), .pointer (some ⟨g2, 1, none⟩), .pointer (some ⟨g2, 2, none⟩), .pointer (some ⟨g2, 3, none⟩), .pointer (some ⟨g2, 4, none⟩), .pointer (some ⟨g2, 5, none⟩), .pointer (some ⟨g2, 6, none⟩), .pointer (some ⟨g2, 7, none⟩), .pointer (some ⟨g2, 8, none⟩), .pointer (some ⟨g2, 9, none⟩), .pointer (some ⟨g2, 10, none⟩), .pointer (some ⟨g2, 11, none⟩)] 53]
  refine J.seq ?_
  refine J.region ?_
  refine O.p (Pu.lss rfl rfl) rfl ?_
  refine O.nil ?_
  refine J.seq ?_
  refine J.condT rfl rfl ?_
  refine J.skip ?_
  refine J.seq ?_
  refine J.block ?_
  refine J.seq ?_
  refine J.region ?_
  refine O.p (Pu.move rfl) rfl ?_
  refine O.p (Pu.indexK1 (cs := [.pointer (some ⟨g4, 0, none⟩), .pointer (some ⟨g4, 1, none⟩), .pointer (some ⟨g4, 2, none⟩), .pointer (some ⟨g4, 3, none⟩), .pointer (some ⟨g4, 4, none⟩), .pointer (some ⟨g4, 5, none⟩), .pointer (some ⟨g4, 6, none⟩), .pointer (some ⟨g4, 7, none⟩), .pointer (some ⟨g4, 8, none⟩), .pointer (some ⟨g4, 9, none⟩), .pointer (some ⟨g4, 10, none⟩), .pointer (some ⟨g4, 11, none⟩)]) Tryz.runUnderlying53 Tryz.sizeOf52 Tryz.isAgg52 rfl rfl (by decide) (by decide) rfl) rfl ?_
  refine O.p (Pu.assign rfl) rfl ?_
  refine O.p (Pu.assign rfl) rfl ?_
  refine O.nil ?_
  refine J.drawHead 13 Tryz.mixed (by kernel_rfl) ?_
  refine Hd.p (Pu.move rfl) rfl ?_
  refine Hd.p (Pu.move rfl) rfl ?_
  refine Hd.p (Pu.indexAddrK 6 Tryz.runUnderlying53 Tryz.sizeOf52 rfl rfl (by decide) (by decide) rfl) rfl ?_
  refine Hd.q (Qt.ld rfl (Cel.var 4 rfl) (o := 0) (off := 6) rfl (Cut.one Tryz.isAgg52 rfl)) rfl ?_
  refine Hd.p (Pu.nilCheck rfl) rfl ?_
  refine Hd.q (Qt.ld rfl (Cel.var 1 rfl) (o := 0) (off := 6) rfl (Cut.one Tryz.isAgg3 rfl)) rfl ?_
  refine Hd.p (Pu.move rfl) rfl ?_
  refine Hd.p (Pu.indexAddrK 6 Tryz.runUnderlying53 Tryz.sizeOf52 rfl rfl (by decide) (by decide) rfl) rfl ?_
  refine Hd.q (Qt.ld rfl (Cel.var 5 rfl) (o := 0) (off := 6) rfl (Cut.one Tryz.isAgg52 rfl)) rfl ?_
  refine Hd.p (Pu.nilCheck rfl) rfl ?_
  refine Hd.q (Qt.ld rfl (Cel.var 2 rfl) (o := 0) (off := 6) rfl (Cut.one Tryz.isAgg3 rfl)) rfl ?_
  refine Hd.call (vs := [.int .i64 a.d6, .int .i64 b.d6]) (caps := []) (by exact Tryz.call29) rfl rfl (bd_Add a.d6 b.d6) (fun _ _ h => h) RoOk.nil rfl ?_
  refine Hd.p (Pu.nilCheck rfl) rfl ?_
  refine Hd.nil ?_
  refine O.l0 (Lo.store 0 (vs := [.int .i64 (Rp.addC a.d6 b.d6)]) [.int .i64 (Rp.addC a.d0 b.d0), .int .i64 (Rp.addC a.d1 b.d1), .int .i64 (Rp.addC a.d2 b.d2), .int .i64 (Rp.addC a.d3 b.d3), .int .i64 (Rp.addC a.d4 b.d4), .int .i64 (Rp.addC a.d5 b.d5), .int .i64 (Rp.addC a.d6 b.d6), .int .i64 0, .int .i64 0, .int .i64 0, .int .i64 0, .int .i64 0] rfl rfl rfl (by exact Tryz.sizeOf3) rfl rfl rfl rfl rfl) ?_
  rintro _ _ rfl
  refine O.nil ?_
  refine J.blk ?_
  refine J.region ?_
  refine O.p (Pu.add' rfl rfl (by first | omega | (simp only [List.length_append, List.length_cons, List.length_nil, List.length_set]; omega))) rfl ?_
  refine O.p (Pu.move rfl) rfl ?_
  refine O.nil ?_
  exact J.lp 7 (show 7 ≤ 12 from (by omega)) (show 12 - 7 < 12 - 6 from (by first | omega | decide | (simp; done) | (simp only [List.length_append, List.length_cons, List.length_nil, List.length_take]; omega))) ⟨rfl, rfl, rfl, rfl, rfl, rfl, rfl, (congrArg (fun z => some (Value.int .i64 z)) (by first | rfl | omega : (6 + 1 : Int) = (7 : Int))), trivial⟩ [0, 1, 2, 3, 4, 5] (by decide) rfl
 ·
  show J _ _ [(2, .pointer (some ⟨g1, 0, none⟩)), (3, .pointer (some ⟨g2, 0, none⟩)), (4, .pointer (some ⟨g3, 0, none⟩)), (5, .pointer (some ⟨g4, 0, none⟩)), (6, .pointer (some ⟨g7, 0, none⟩)), (7, .pointer (some ⟨g8, 0, none⟩)), (12, .agg #[.pointer (some ⟨g4, 0, none⟩), .pointer (some ⟨g4, 1, none⟩), .pointer (some ⟨g4, 2, none⟩), .pointer (some ⟨g4, 3, none⟩), .pointer (some ⟨g4, 4, none⟩), .pointer (some ⟨g4, 5, none⟩), .pointer (some ⟨g4, 6, none⟩), .pointer (some ⟨g4, 7, none⟩), .pointer (some ⟨g4, 8, none⟩), .pointer (some ⟨g4, 9, none⟩), .pointer (some ⟨g4, 10, none⟩), .pointer (some ⟨g4, 11, none⟩)]), (13, .int .i64 7)] [var g4 [.int .i64 (Rp.addC a.d0 b.d0), .int .i64 (Rp.addC a.d1 b.d1), .int .i64 (Rp.addC a.d2 b.d2), .int .i64 (Rp.addC a.d3 b.d3), .int .i64 (Rp.addC a.d4 b.d4), .int .i64 (Rp.addC a.d5 b.d5), .int .i64 (Rp.addC a.d6 b.d6), .int .i64 0, .int .i64 0, .int .i64 0, .int .i64 0, .int .i64 0] 23, var g1 [.int .i64 a.d0, .int .i64 a.d1, .int .i64 a.d2, .int .i64 a.d3, .int .i64 a.d4, .int .i64 a.d5, .int .i64 a.d6, .int .i64 a.d7, .int .i64 a.d8, .int .i64 a.d9, .int .i64 a.d10, .int .i64 a.d11] 23, var g2 [.int .i64 b.d0, .int .i64 b.d1, .int .i64 b.d2, .int .i64 b.d3, .int .i64 b.d4, .int .i64 b.d5, .int .i64 b.d6, .int .i64 b.d7, .int .i64 b.d8, .int .i64 b.d9, .int .i64 b.d10, .int .i64 b.d11] 23, var g3 [.int .i64 0, .int .i64 0, .int .i64 0, .int .i64 0, .int .i64 0, .int .i64 0, .int .i64 0, .int .i64 0, .int .i64 0, .int .i64 0, .int .i64 0, .int .i64 0] 23, var g7 [.pointer (some ⟨g1, 0, none⟩), .pointer (some ⟨g1, 1, none⟩), .pointer (some ⟨g1, 2, none⟩), .pointer (some ⟨g1, 3, none⟩), .pointer (some ⟨g1, 4, none⟩), .pointer (some ⟨g1, 5, none⟩), .pointer (some ⟨g1, 6, none⟩), .pointer (some ⟨g1, 7, none⟩), .pointer (some ⟨g1, 8, none⟩), .pointer (some ⟨g1, 9, none⟩), .pointer (some ⟨g1, 10, none⟩), .pointer (some ⟨g1, 11, none⟩)] 53, var g8 [.pointer (some ⟨g2, 0, none⟩), .pointer (some ⟨g2, 1, none⟩), .pointer (some ⟨g2, 2, none⟩), .pointer (some ⟨g2, 3, none⟩), .pointer (some ⟨g2, 4, none⟩), .pointer (some ⟨g2, 5, none⟩), .pointer (some ⟨g2, 6, none⟩), .pointer (some ⟨g2, 7, none⟩), .pointer (some ⟨g2, 8, none⟩), .pointer (some ⟨g2, 9, none⟩), .pointer (some ⟨g2, 10, none⟩), .pointer (some ⟨g2, 11, none⟩)] 53]
  refine J.seq ?_
  refine J.region ?_
  refine O.p (Pu.lss rfl rfl) rfl ?_
  refine O.nil ?_
  refine J.seq ?_
  refine J.condT rfl rfl ?_
  refine J.skip ?_
  refine J.seq ?_
  refine J.block ?_
  refine J.seq ?_
  refine J.region ?_
  refine O.p (Pu.move rfl) rfl ?_
  refine O.p (Pu.indexK1 (cs := [.pointer (some ⟨g4, 0, none⟩), .pointer (some ⟨g4, 1, none⟩), .pointer (some ⟨g4, 2, none⟩), .pointer (some ⟨g4, 3, none⟩), .pointer (some ⟨g4, 4, none⟩), .pointer (some ⟨g4, 5, none⟩), .pointer (some ⟨g4, 6, none⟩), .pointer (some ⟨g4, 7, none⟩), .pointer (some ⟨g4, 8, none⟩), .pointer (some ⟨g4, 9, none⟩), .pointer (some ⟨g4, 10, none⟩), .pointer (some ⟨g4, 11, none⟩)]) Tryz.runUnderlying53 Tryz.sizeOf52 Tryz.isAgg52 rfl rfl (by decide) (by decide) rfl) rfl ?_
  refine O.p (Pu.assign rfl) rfl ?_
  refine O.p (Pu.assign rfl) rfl ?_
  refine O.nil ?_
  refine J.drawHead 13 Tryz.mixed (by kernel_rfl) ?_
  refine Hd.p (Pu.move rfl) rfl ?_
  refine Hd.p (Pu.move rfl) rfl ?_
  refine Hd.p (Pu.indexAddrK 7 Tryz.runUnderlying53 Tryz.sizeOf52 rfl rfl (by decide) (by decide) rfl) rfl ?_
  refine Hd.q (Qt.ld rfl (Cel.var 4 rfl) (o := 0) (off := 7) rfl (Cut.one Tryz.isAgg52 rfl)) rfl ?_
  refine Hd.p (Pu.nilCheck rfl) rfl ?_
  refine Hd.q (Qt.ld rfl (Cel.var 1 rfl) (o := 0) (off := 7) rfl (Cut.one Tryz.isAgg3 rfl)) rfl ?_
  refine Hd.p (Pu.move rfl) rfl ?_
  refine Hd.p (Pu.indexAddrK 7 Tryz.runUnderlying53 Tryz.sizeOf52 rfl rfl (by decide) (by decide) rfl) rfl ?_
  refine Hd.q (Qt.ld rfl (Cel.var 5 rfl) (o := 0) (off := 7) rfl (Cut.one Tryz.isAgg52 rfl)) rfl ?_
  refine Hd.p (Pu.nilCheck rfl) rfl ?_
  refine Hd.q (Qt.ld rfl (Cel.var 2 rfl) (o := 0) (off := 7) rfl (Cut.one Tryz.isAgg3 rfl)) rfl ?_
  refine Hd.call (vs := [.int .i64 a.d7, .int .i64 b.d7]) (caps := []) (by exact Tryz.call29) rfl rfl (bd_Add a.d7 b.d7) (fun _ _ h => h) RoOk.nil rfl ?_
  refine Hd.p (Pu.nilCheck rfl) rfl ?_
  refine Hd.nil ?_
  refine O.l0 (Lo.store 0 (vs := [.int .i64 (Rp.addC a.d7 b.d7)]) [.int .i64 (Rp.addC a.d0 b.d0), .int .i64 (Rp.addC a.d1 b.d1), .int .i64 (Rp.addC a.d2 b.d2), .int .i64 (Rp.addC a.d3 b.d3), .int .i64 (Rp.addC a.d4 b.d4), .int .i64 (Rp.addC a.d5 b.d5), .int .i64 (Rp.addC a.d6 b.d6), .int .i64 (Rp.addC a.d7 b.d7), .int .i64 0, .int .i64 0, .int .i64 0, .int .i64 0] rfl rfl rfl (by exact Tryz.sizeOf3) rfl rfl rfl rfl rfl) ?_
  rintro _ _ rfl
  refine O.nil ?_
  refine J.blk ?_
  refine J.region ?_
  refine O.p (Pu.add' rfl rfl (by first | omega | (simp only [List.length_append, List.length_cons, List.length_nil, List.length_set]; omega))) rfl ?_
  refine O.p (Pu.move rfl) rfl ?_
  refine O.nil ?_
  exact J.lp 8 (show 8 ≤ 12 from (by omega)) (show 12 - 8 < 12 - 7 from (by first | omega | decide | (simp; done) | (simp only [List.length_append, List.length_cons, List.length_nil, List.length_take]; omega))) ⟨rfl, rfl, rfl, rfl, rfl, rfl, rfl, (congrArg (fun z => some (Value.int .i64 z)) (by first | rfl | omega : (7 + 1 : Int) = (8 : Int))), trivial⟩ [0, 1, 2, 3, 4, 5] (by decide) rfl
 ·
  show J _ _ [(2, .pointer (some ⟨g1, 0, none⟩)), (3, .pointer (some ⟨g2, 0, none⟩)), (4, .pointer (some ⟨g3, 0, none⟩)), (5, .pointer (some ⟨g4, 0, none⟩)), (6, .pointer (some ⟨g7, 0, none⟩)), (7, .pointer (some ⟨g8, 0, none⟩)), (12, .agg #[.pointer (some ⟨g4, 0, none⟩), .pointer (some ⟨g4, 1, none⟩), .pointer (some ⟨g4, 2, none⟩), .pointer (some ⟨g4, 3, none⟩), .pointer (some ⟨g4, 4, none⟩), .pointer (some ⟨g4, 5, none⟩), .pointer (some ⟨g4, 6, none⟩), .pointer (some ⟨g4, 7, none⟩), .pointer (some ⟨g4, 8, none⟩), .pointer (some ⟨g4, 9, none⟩), .pointer (some ⟨g4, 10, none⟩), .pointer (some ⟨g4, 11, none⟩)]), (13, .int .i64 8)] [var g4 [.int .i64 (Rp.addC a.d0 b.d0), .int .i64 (Rp.addC a.d1 b.d1), .int .i64 (Rp.addC a.d2 b.d2), .int .i64 (Rp.addC a.d3 b.d3), .int .i64 (Rp.addC a.d4 b.d4), .int .i64 (Rp.addC a.d5 b.d5), .int .i64 (Rp.addC a.d6 b.d6), .int .i64 (Rp.addC a.d7 b.d7), .int .i64 0, .int .i64 0, .int .i64 0, .int .i64 0] 23, var g1 [.int .i64 a.d0, .int .i64 a.d1, .int .i64 a.d2, .int .i64 a.d3, .int .i64 a.d4, .int .i64 a.d5, .int .i64 a.d6, .int .i64 a.d7, .int .i64 a.d8, .int .i64 a.d9, .int .i64 a.d10, .int .i64 a.d11] 23, var g2 [.int .i64 b.d0, .int .i64 b.d1, .int .i64 b.d2, .int .i64 b.d3, .int .i64 b.d4, .int .i64 b.d5, .int .i64 b.d6, .int .i64 b.d7, .int .i64 b.d8, .int .i64 b.d9, .int .i64 b.d10, .int .i64 b.d11] 23, var g3 [.int .i64 0, .int .i64 0, .int .i64 0, .int .i64 0, .int .i64 0, .int .i64 0, .int .i64 0, .int .i64 0, .int .i64 0, .int .i64 0, .int .i64 0, .int .i64 0] 23, var g7 [.pointer (some ⟨g1, 0, none⟩), .pointer (some ⟨g1, 1, none⟩), .pointer (some ⟨g1, 2, none⟩), .pointer (some ⟨g1, 3, none⟩), .pointer (some ⟨g1, 4, none⟩), .pointer (some ⟨g1, 5, none⟩), .pointer (some ⟨g1, 6, none⟩), .pointer (some ⟨g1, 7, none⟩), .pointer (some ⟨g1, 8, none⟩), .pointer (some ⟨g1, 9, none⟩), .pointer (some ⟨g1, 10, none⟩), .pointer (some ⟨g1, 11, none⟩)] 53, var g8 [.pointer (some ⟨g2, 0, none⟩), .pointer (some ⟨g2, 1, none⟩), .pointer (some ⟨g2, 2, none⟩), .pointer (some ⟨g2, 3, none⟩), .pointer (some ⟨g2, 4, none⟩), .pointer (some ⟨g2, 5, none⟩), .pointer (some ⟨g2, 6, none⟩), .pointer (some ⟨g2, 7, none⟩), .pointer (some ⟨g2, 8, none⟩), .pointer (some ⟨g2, 9, none⟩), .pointer (some ⟨g2, 10, none⟩), .pointer (some ⟨g2, 11, none⟩)] 53]
  refine J.seq ?_
  refine J.region ?_
  refine O.p (Pu.lss rfl rfl) rfl ?_
  refine O.nil ?_
  refine J.seq ?_
  refine J.condT rfl rfl ?_
  refine J.skip ?_
  refine J.seq ?_
  refine J.block ?_
  refine J.seq ?_
  refine J.region ?_
  refine O.p (Pu.move rfl) rfl ?_
  refine O.p (Pu.indexK1 (cs := [.pointer (some ⟨g4, 0, none⟩), .pointer (some ⟨g4, 1, none⟩), .pointer (some ⟨g4, 2, none⟩), .pointer (some ⟨g4, 3, none⟩), .pointer (some ⟨g4, 4, none⟩), .pointer (some ⟨g4, 5, none⟩), .pointer (some ⟨g4, 6, none⟩), .pointer (some ⟨g4, 7, none⟩), .pointer (some ⟨g4, 8, none⟩), .pointer (some ⟨g4, 9, none⟩), .pointer (some ⟨g4, 10, none⟩), .pointer (some ⟨g4, 11, none⟩)]) Tryz.runUnderlying53 Tryz.sizeOf52 Tryz.isAgg52 rfl rfl (by decide) (by decide) rfl) rfl ?_
  refine O.p (Pu.assign rfl) rfl ?_
  refine O.p (Pu.assign rfl) rfl ?_
  refine O.nil ?_
  refine J.drawHead 13 Tryz.mixed (by kernel_rfl) ?_
  refine Hd.p (Pu.move rfl) rfl ?_
  refine Hd.p (Pu.move rfl) rfl ?_
  refine Hd.p (Pu.indexAddrK 8 Tryz.runUnderlying53 Tryz.sizeOf52 rfl rfl (by decide) (by decide) rfl) rfl ?_
  refine Hd.q (Qt.ld rfl (Cel.var 4 rfl) (o := 0) (off := 8) rfl (Cut.one Tryz.isAgg52 rfl)) rfl ?_
  refine Hd.p (Pu.nilCheck rfl) rfl ?_
  refine Hd.q (Qt.ld rfl (Cel.var 1 rfl) (o := 0) (off := 8) rfl (Cut.one Tryz.isAgg3 rfl)) rfl ?_
  refine Hd.p (Pu.move rfl) rfl ?_
  refine Hd.p (Pu.indexAddrK 8 Tryz.runUnderlying53 Tryz.sizeOf52 rfl rfl (by decide) (by decide) rfl) rfl ?_
  refine Hd.q (Qt.ld rfl (Cel.var 5 rfl) (o := 0) (off := 8) rfl (Cut.one Tryz.isAgg52 rfl)) rfl ?_
  refine Hd.p (Pu.nilCheck rfl) rfl ?_
  refine Hd.q (Qt.ld rfl (Cel.var 2 rfl) (o := 0) (off := 8) rfl (Cut.one Tryz.isAgg3 rfl)) rfl ?_
  refine Hd.call (vs := [.int .i64 a.d8, .int .i64 b.d8]) (caps := []) (by exact Tryz.call29) rfl rfl (bd_Add a.d8 b.d8) (fun _ _ h => h) RoOk.nil rfl ?_
  refine Hd.p (Pu.nilCheck rfl) rfl ?_
  refine Hd.nil ?_
  refine O.l0 (Lo.store 0 (vs := [.int .i64 (Rp.addC a.d8 b.d8)]) [.int .i64 (Rp.addC a.d0 b.d0), .int .i64 (Rp.addC a.d1 b.d1), .int .i64 (Rp.addC a.d2 b.d2), .int .i64 (Rp.addC a.d3 b.d3), .int .i64 (Rp.addC a.d4 b.d4), .int .i64 (Rp.addC a.d5 b.d5), .int .i64 (Rp.addC a.d6 b.d6), .int .i64 (Rp.addC a.d7 b.d7), .int .i64 (Rp.addC a.d8 b.d8), .int .i64 0, .int .i64 0, .int .i64 0] rfl rfl rfl (by exact Tryz.sizeOf3) rfl rfl rfl rfl rfl) ?_
  rintro _ _ rfl
  refine O.nil ?_
  refine J.blk ?_
  refine J.region ?_
  refine O.p (Pu.add' rfl rfl (by first | omega | (simp only [List.length_append, List.length_cons, List.length_nil, List.length_set]; omega))) rfl ?_
  refine O.p (Pu.move rfl) rfl ?_
  refine O.nil ?_
  exact J.lp 9 (show 9 ≤ 12 from (by omega)) (show 12 - 9 < 12 - 8 from (by first | omega | decide | (simp; done) | (simp only [List.length_append, List.length_cons, List.length_nil, List.length_take]; omega))) ⟨rfl, rfl, rfl, rfl, rfl, rfl, rfl, (congrArg (fun z => some (Value.int .i64 z)) (by first | rfl | omega : (8 + 1 : Int) = (9 : Int))), trivial⟩ [0, 1, 2, 3, 4, 5] (by decide) rfl
 ·
  show J _ _ [(2, .pointer (some ⟨g1, 0, none⟩)), (3, .pointer (some ⟨g2, 0, none⟩)), (4, .pointer (some ⟨g3, 0, none⟩)), (5, .pointer (some ⟨g4, 0, none⟩)), (6, .pointer (some ⟨g7, 0, none⟩)), (7, .pointer (some ⟨g8, 0, none⟩)), (12, .agg #[.pointer (some ⟨g4, 0, none⟩), .pointer (some ⟨g4, 1, none⟩), .pointer (some ⟨g4, 2, none⟩), .pointer (some ⟨g4, 3, none⟩), .pointer (some ⟨g4, 4, none⟩), .pointer (some ⟨g4, 5, none⟩), .pointer (some ⟨g4, 6, none⟩), .pointer (some ⟨g4, 7, none⟩), .pointer (some ⟨g4, 8, none⟩), .pointer (some ⟨g4, 9, none⟩), .pointer (some ⟨g4, 10, none⟩), .pointer (some ⟨g4, 11, none⟩)]), (13, .int .i64 9)] [var g4 [.int .i64 (Rp.addC a.d0 b.d0), .int .i64 (Rp.addC a.d1 b.d1), .int .i64 (Rp.addC a.d2 b.d2), .int .i64 (Rp.addC a.d3 b.d3), .int .i64 (Rp.addC a.d4 b.d4), .int .i64 (Rp.addC a.d5 b.d5), .int .i64 (Rp.addC a.d6 b.d6), .int .i64 (Rp.addC a.d7 b.d7), .int .i64 (Rp.addC a.d8 b.d8), .int .i64 0, .int .i64 0, .int .i64 0] 23, var g1 [.int .i64 a.d0, .int .i64 a.d1, .int .i64 a.d2, .int .i64 a.d3, .int .i64 a.d4, .int .i64 a.d5, .int .i64 a.d6, .int .i64 a.d7, .int .i64 a.d8, .int .i64 a.d9, .int .i64 a.d10, .int .i64 a.d11] 23, var g2 [.int .i64 b.d0, .int .i64 b.d1, .int .i64 b.d2, .int .i64 b.d3, .int .i64 b.d4, .int .i64 b.d5, .int .i64 b.d6, .int .i64 b.d7, .int .i64 b.d8, .int .i64 b.d9, .int .i64 b.d10, .int .i64 b.d11] 23, var g3 [.int .i64 0, .int .i64 0, .int .i64 0, .int .i64 0, .int .i64 0, .int .i64 0, .int .i64 0, .int .i64 0, .int .i64 0, .int .i64 0, .int .i64 0, .int .i64 0] 23, var g7 [.pointer (some ⟨g1, 0, none⟩), .pointer (some ⟨g1, 1, none⟩), .pointer (some ⟨g1, 2, none⟩), .pointer (some ⟨g1, 3, none⟩), .pointer (some ⟨g1, 4, none⟩), .pointer (some ⟨g1, 5, none⟩), .pointer (some ⟨g1, 6, none⟩), .pointer (some ⟨g1, 7, none⟩), .pointer (some ⟨g1, 8, none⟩), .pointer (some ⟨g1, 9, none⟩), .pointer (some ⟨g1, 10, none⟩), .pointer (some ⟨g1, 11, none⟩)] 53, var g8 [.pointer (some ⟨g2, 0, none⟩), .pointer (some ⟨g2, 1, none⟩), .pointer (some ⟨g2, 2, none⟩), .pointer (some ⟨g2, 3, none⟩), .pointer (some ⟨g2, 4, none⟩), .pointer (some ⟨g2, 5, none⟩), .pointer (some ⟨g2, 6, none⟩), .pointer (some ⟨g2, 7, none⟩), .pointer (some ⟨g2, 8, none⟩), .pointer (some ⟨g2, 9, none⟩), .pointer (some ⟨g2, 10, none⟩), .pointer (some ⟨g2, 11, none⟩)] 53]
  refine J.seq ?_
  refine J.region ?_
  refine O.p (Pu.lss rfl rfl) rfl ?_
  refine O.nil ?_
  refine J.seq ?_
  refine J.condT rfl rfl ?_
  refine J.skip ?_
  refine J.seq ?_
  refine J.block ?_
  refine J.seq ?_
  refine J.region ?_
  refine O.p (Pu.move rfl) rfl ?_
  refine O.p (Pu.indexK1 (cs := [.pointer (some ⟨g4, 0, none⟩), .pointer (some ⟨g4, 1, none⟩), .pointer (some ⟨g4, 2, none⟩), .pointer (some ⟨g4, 3, none⟩), .pointer (some ⟨g4, 4, none⟩), .pointer (some ⟨g4, 5, none⟩), .pointer (some ⟨g4, 6, none⟩), .pointer (some ⟨g4, 7, none⟩), .pointer (some ⟨g4, 8, none⟩), .pointer (some ⟨g4, 9, none⟩), .pointer (some ⟨g4, 10, none⟩), .pointer (some ⟨g4, 11, none⟩)]) Tryz.runUnderlying53 Tryz.sizeOf52 Tryz.isAgg52 rfl rfl (by decide) (by decide) rfl) rfl ?_
  refine O.p (Pu.assign rfl) rfl ?_
  refine O.p (Pu.assign rfl) rfl ?_
  refine O.nil ?_
  refine J.drawHead 13 Tryz.mixed (by kernel_rfl) ?_
  refine Hd.p (Pu.move rfl) rfl ?_
  refine Hd.p (Pu.move rfl) rfl ?_
  refine Hd.p (Pu.indexAddrK 9 Tryz.runUnderlying53 Tryz.sizeOf52 rfl rfl (by decide) (by decide) rfl) rfl ?_
  refine Hd.q (Qt.ld rfl (Cel.var 4 rfl) (o := 0) (off := 9) rfl (Cut.one Tryz.isAgg52 rfl)) rfl ?_
  refine Hd.p (Pu.nilCheck rfl) rfl ?_
  refine Hd.q (Qt.ld rfl (Cel.var 1 rfl) (o := 0) (off := 9) rfl (Cut.one Tryz.isAgg3 rfl)) rfl ?_
  refine Hd.p (Pu.move rfl) rfl ?_
  refine Hd.p (Pu.indexAddrK 9 Tryz.runUnderlying53 Tryz.sizeOf52 rfl rfl (by decide) (by decide) rfl) rfl ?_
  refine Hd.q (Qt.ld rfl (Cel.var 5 rfl) (o := 0) (off := 9) rfl (Cut.one Tryz.isAgg52 rfl)) rfl ?_
  refine Hd.p (Pu.nilCheck rfl) rfl ?_
  refine Hd.q (Qt.ld rfl (Cel.var 2 rfl) (o := 0) (off := 9) rfl (Cut.one Tryz.isAgg3 rfl)) rfl ?_
  refine Hd.call (vs := [.int .i64 a.d9, .int .i64 b.d9]) (caps := []) (by exact Tryz.call29) rfl rfl (bd_Add a.d9 b.d9) (fun _ _ h => h) RoOk.nil rfl ?_
  refine Hd.p (Pu.nilCheck rfl) rfl ?_
  refine Hd.nil ?_
  refine O.l0 (Lo.store 0 (vs := [.int .i64 (Rp.addC a.d9 b.d9)]) [.int .i64 (Rp.addC a.d0 b.d0), .int .i64 (Rp.addC a.d1 b.d1), .int .i64 (Rp.addC a.d2 b.d2), .int .i64 (Rp.addC a.d3 b.d3), .int .i64 (Rp.addC a.d4 b.d4), .int .i64 (Rp.addC a.d5 b.d5), .int .i64 (Rp.addC a.d6 b.d6), .int .i64 (Rp.addC a.d7 b.d7), .int .i64 (Rp.addC a.d8 b.d8), .int .i64 (Rp.addC a.d9 b.d9), .int .i64 0, .int .i64 0] rfl rfl rfl (by exact Tryz.sizeOf3) rfl rfl rfl rfl rfl) ?_
  rintro _ _ rfl
  refine O.nil ?_
  refine J.blk ?_
  refine J.region ?_
  refine O.p (Pu.add' rfl rfl (by first | omega | (simp only [List.length_append, List.length_cons, List.length_nil, List.length_set]; omega))) rfl ?_
  refine O.p (Pu.move rfl) rfl ?_
  refine O.nil ?_
  exact J.lp 10 (show 10 ≤ 12 from (by omega)) (show 12 - 10 < 12 - 9 from (by first | omega | decide | (simp; done) | (simp only [List.length_append, List.length_cons, List.length_nil, List.length_take]; omega))) ⟨rfl, rfl, rfl, rfl, rfl, rfl, rfl, (congrArg (fun z => some (Value.int .i64 z)) (by first | rfl | omega : (9 + 1 : Int) = (10 : Int))), trivial⟩ [0, 1, 2, 3, 4, 5] (by decide) rfl
 ·
  show J _ _ [(2, .pointer (some ⟨g1, 0, none⟩)), (3, .pointer (some ⟨g2, 0, none⟩)), (4, .pointer (some ⟨g3, 0, none⟩)), (5, .pointer (some ⟨g4, 0, none⟩)), (6, .pointer (some ⟨g7, 0, none⟩)), (7, .pointer (some ⟨g8, 0, none⟩)), (12, .agg #[.pointer (some ⟨g4, 0, none⟩), .pointer (some ⟨g4, 1, none⟩), .pointer (some ⟨g4, 2, none⟩), .pointer (some ⟨g4, 3, none⟩), .pointer (some ⟨g4, 4, none⟩), .pointer (some ⟨g4, 5, none⟩), .pointer (some ⟨g4, 6, none⟩), .pointer (some ⟨g4, 7, none⟩), .pointer (some ⟨g4, 8, none⟩), .pointer (some ⟨g4, 9, none⟩), .pointer (some ⟨g4, 10, none⟩), .pointer (some ⟨g4, 11, none⟩)]), (13, .int .i64 10)] [var g4 [.int .i64 (Rp.addC a.d0 b.d0), .int .i64 (Rp.addC a.d1 b.d1), .int .i64 (Rp.addC a.d2 b.d2), .int .i64 (Rp.addC a.d3 b.d3), .int .i64 (Rp.addC a.d4 b.d4), .int .i64 (Rp.addC a.d5 b.d5), .int .i64 (Rp.addC a.d6 b.d6), .int .i64 (Rp.addC a.d7 b.d7), .int .i64 (Rp.addC a.d8 b.d8), .int .i64 (Rp.addC a.d9 b.d9), .int .i64 0, .int .i64 0] 23, var g1 [.int .i64 a.d0, .int .i64 a.d1, .int .i64 a.d2, .int .i64 a.d3, .int .i64 a.d4, .int .i64 a.d5, .int .i64 a.d6, .int .i64 a.d7, .int .i64 a.d8, .int .i64 a.d9, .int .i64 a.d10, .int .i64 a.d11] 23, var g2 [.int .i64 b.d0, .int .i64 b.d1, .int .i64 b.d2, .int .i64 b.d3, .int .i64 b.d4, .int .i64 b.d5, .int .i64 b.d6, .int .i64 b.d7, .int .i64 b.d8, .int .i64 b.d9, .int .i64 b.d10, .int .i64 b.d11] 23, var g3 [.int .i64 0, .int .i64 0, .int .i64 0, .int .i64 0, .int .i64 0, .int .i64 0, .int .i64 0, .int .i64 0, .int .i64 0, .int .i64 0, .int .i64 0, .int .i64 0] 23, var g7 [.pointer (some ⟨g1, 0, none⟩), .pointer (some ⟨g1, 1, none⟩), .pointer (some ⟨g1, 2, none⟩), .pointer (some ⟨g1, 3, none⟩), .pointer (some ⟨g1, 4, none⟩), .pointer (some ⟨g1, 5, none⟩), .pointer (some ⟨g1, 6, none⟩), .pointer (some ⟨g1, 7, none⟩), .pointer (some ⟨g1, 8, none⟩), .pointer (some ⟨g1, 9, none⟩), .pointer (some ⟨g1, 10, none⟩), .pointer (some ⟨g1, 11, none⟩)] 53, var g8 [.pointer (some ⟨g2, 0, none⟩), .pointer (some ⟨g2, 1, none⟩), .pointer (some ⟨g2, 2, none⟩), .pointer (some ⟨g2, 3, none⟩), .pointer (some ⟨g2, 4, none⟩), .pointer (some ⟨g2, 5, none⟩), .pointer (some ⟨g2, 6, none⟩), .pointer (some ⟨g2, 7, none⟩), .pointer (some ⟨g2, 8, none⟩), .pointer (some ⟨g2, 9, none⟩), .pointer (some ⟨g2, 10, none⟩), .pointer (some ⟨g2, 11, none⟩)] 53]
  refine J.seq ?_
  refine J.region ?_
  refine O.p (Pu.lss rfl rfl) rfl ?_
  refine O.nil ?_
  refine J.seq ?_
  refine J.condT rfl rfl ?_
  refine J.skip ?_
  refine J.seq ?_
  refine J.block ?_
  refine J.seq ?_
  refine J.region ?_
  refine O.p (Pu.move rfl) rfl ?_
  refine O.p (Pu.indexK1 (cs := [.pointer (some ⟨g4, 0, none⟩), .pointer (some ⟨g4, 1, none⟩), .pointer (some ⟨g4, 2, none⟩), .pointer (some ⟨g4, 3, none⟩), .pointer (some ⟨g4, 4, none⟩), .pointer (some ⟨g4, 5, none⟩), .pointer (some ⟨g4, 6, none⟩), .pointer (some ⟨g4, 7, none⟩), .pointer (some ⟨g4, 8, none⟩), .pointer (some ⟨g4, 9, none⟩), .pointer (some ⟨g4, 10, none⟩), .pointer (some ⟨g4, 11, none⟩)]) Tryz.runUnderlying53 Tryz.sizeOf52 Tryz.isAgg52 rfl rfl (by decide) (by decide) rfl) rfl ?_
  refine O.p (Pu.assign rfl) rfl ?_
  refine O.p (Pu.assign rfl) rfl ?_
  refine O.nil ?_
  refine J.drawHead 13 Tryz.mixed (by kernel_rfl) ?_
  refine Hd.p (Pu.move rfl) rfl ?_
  refine Hd.p (Pu.move rfl) rfl ?_
  refine Hd.p (Pu.indexAddrK 10 Tryz.runUnderlying53 Tryz.sizeOf52 rfl rfl (by decide) (by decide) rfl) rfl ?_
  refine Hd.q (Qt.ld rfl (Cel.var 4 rfl) (o := 0) (off := 10) rfl (Cut.one Tryz.isAgg52 rfl)) rfl ?_
  refine Hd.p (Pu.nilCheck rfl) rfl ?_
  refine Hd.q (Qt.ld rfl (Cel.var 1 rfl) (o := 0) (off := 10) rfl (Cut.one Tryz.isAgg3 rfl)) rfl ?_
  refine Hd.p (Pu.move rfl) rfl ?_
  refine Hd.p (Pu.indexAddrK 10 Tryz.runUnderlying53 Tryz.sizeOf52 rfl rfl (by decide) (by decide) rfl) rfl ?_
  refine Hd.q (Qt.ld rfl (Cel.var 5 rfl) (o := 0) (off := 10) rfl (Cut.one Tryz.isAgg52 rfl)) rfl ?_
  refine Hd.p (Pu.nilCheck rfl) rfl ?_
  refine Hd.q (Qt.ld rfl (Cel.var 2 rfl) (o := 0) (off := 10) rfl (Cut.one Tryz.isAgg3 rfl)) rfl ?_
  refine Hd.call (vs := [.int .i64 a.d10, .int .i64 b.d10]) (caps := []) (by exact Tryz.call29) rfl rfl (bd_Add a.d10 b.d10) (fun _ _ h => h) RoOk.nil rfl ?_
  refine Hd.p (Pu.nilCheck rfl) rfl ?_
  refine Hd.nil ?_
  refine O.l0 (Lo.store 0 (vs := [.int .i64 (Rp.addC a.d10 b.d10)]) [.int .i64 (Rp.addC a.d0 b.d0), .int .i64 (Rp.addC a.d1 b.d1), .int .i64 (Rp.addC a.d2 b.d2), .int .i64 (Rp.addC a.d3 b.d3), .int .i64 (Rp.addC a.d4 b.d4), .int .i64 (Rp.addC a.d5 b.d5), .int .i64 (Rp.addC a.d6 b.d6), .int .i64 (Rp.addC a.d7 b.d7), .int .i64 (Rp.addC a.d8 b.d8), .int .i64 (Rp.addC a.d9 b.d9), .int .i64 (Rp.addC a.d10 b.d10), .int .i64 0] rfl rfl rfl (by exact Tryz.sizeOf3) rfl rfl rfl rfl rfl) ?_
  rintro _ _ rfl
  refine O.nil ?_
  refine J.blk ?_
  refine J.region ?_
  refine O.p (Pu.add' rfl rfl (by first | omega | (simp only [List.length_append, List.length_cons, List.length_nil, List.length_set]; omega))) rfl ?_
  refine O.p (Pu.move rfl) rfl ?_
  refine O.nil ?_
  exact J.lp 11 (show 11 ≤ 12 from (by omega)) (show 12 - 11 < 12 - 10 from (by first | omega | decide | (simp; done) | (simp only [List.length_append, List.length_cons, List.length_nil, List.length_take]; omega))) ⟨rfl, rfl, rfl, rfl, rfl, rfl, rfl, (congrArg (fun z => some (Value.int .i64 z)) (by first | rfl | omega : (10 + 1 : Int) = (11 : Int))), trivial⟩ [0, 1, 2, 3, 4, 5] (by decide) rfl
 ·
  show J _ _ [(2, .pointer (some ⟨g1, 0, none⟩)), (3, .pointer (some ⟨g2, 0, none⟩)), (4, .pointer (some ⟨g3, 0, none⟩)), (5, .pointer (some ⟨g4, 0, none⟩)), (6, .pointer (some ⟨g7, 0, none⟩)), (7, .pointer (some ⟨g8, 0, none⟩)), (12, .agg #[.pointer (some ⟨g4, 0, none⟩), .pointer (some ⟨g4, 1, none⟩), .pointer (some ⟨g4, 2, none⟩), .pointer (some ⟨g4, 3, none⟩), .pointer (some ⟨g4, 4, none⟩), .pointer (some ⟨g4, 5, none⟩), .pointer (some ⟨g4, 6, none⟩), .pointer (some ⟨g4, 7, none⟩), .pointer (some ⟨g4, 8, none⟩), .pointer (some ⟨g4, 9, none⟩), .pointer (some ⟨g4, 10, none⟩), .pointer (some ⟨g4, 11, none⟩)]), (13, .int .i64 11)] [var g4 [.int .i64 (Rp.addC a.d0 b.d0), .int .i64 (Rp.addC a.d1 b.d1), .int .i64 (Rp.addC a.d2 b.d2), .int .i64 (Rp.addC a.d3 b.d3), .int .i64 (Rp.addC a.d4 b.d4), .int .i64 (Rp.addC a.d5 b.d5), .int .i64 (Rp.addC a.d6 b.d6), .int .i64 (Rp.addC a.d7 b.d7), .int .i64 (Rp.addC a.d8 b.d8), .int .i64 (Rp.addC a.d9 b.d9), .int .i64 (Rp.addC a.d10 b.d10), .int .i64 0] 23, var g1 [.int .i64 a.d0, .int .i64 a.d1, .int .i64 a.d2, .int .i64 a.d3, .int .i64 a.d4, .int .i64 a.d5, .int .i64 a.d6, .int .i64 a.d7, .int .i64 a.d8, .int .i64 a.d9, .int .i64 a.d10, .int .i64 a.d11] 23, var g2 [.int .i64 b.d0, .int .i64 b.d1, .int .i64 b.d2, .int .i64 b.d3, .int .i64 b.d4, .int .i64 b.d5, .int .i64 b.d6, .int .i64 b.d7, .int .i64 b.d8, .int .i64 b.d9, .int .i64 b.d10, .int .i64 b.d11] 23, var g3 [.int .i64 0, .int .i64 0, .int .i64 0, .int .i64 0, .int .i64 0, .int .i64 0, .int .i64 0, .int .i64 0, .int .i64 0, .int .i64 0, .int .i64 0, .int .i64 0] 23, var g7 [.pointer (some ⟨g1, 0, none⟩), .pointer (some ⟨g1, 1, none⟩), .pointer (some ⟨g1, 2, none⟩), .pointer (some ⟨g1, 3, none⟩), .pointer (some ⟨g1, 4, none⟩), .pointer (some ⟨g1, 5, none⟩), .pointer (some ⟨g1, 6, none⟩), .pointer (some ⟨g1, 7, none⟩), .pointer (some ⟨g1, 8, none⟩), .pointer (some ⟨g1, 9, none⟩), .pointer (some ⟨g1, 10, none⟩), .pointer (some ⟨g1, 11, none⟩)] 53, var g8 [.pointer (some ⟨g2, 0, none⟩), .pointer (some ⟨g2, 1, none⟩), .pointer (some ⟨g2, 2, none⟩), .pointer (some ⟨g2, 3, none⟩), .pointer (some ⟨g2, 4, none⟩), .pointer (some ⟨g2, 5, none⟩), .pointer (some ⟨g2, 6, none⟩), .pointer (some ⟨g2, 7, none⟩), .pointer (some ⟨g2, 8, none⟩), .pointer (some ⟨g2, 9, none⟩), .pointer (some ⟨g2, 10, none⟩), .pointer (some ⟨g2, 11, none⟩)] 53]
  refine J.seq ?_
  refine J.region ?_
  refine O.p (Pu.lss rfl rfl) rfl ?_
  refine O.nil ?_
  refine J.seq ?_
  refine J.condT rfl rfl ?_
  refine J.skip ?_
  refine J.seq ?_
  refine J.block ?_
  refine J.seq ?_
  refine J.region ?_
  refine O.p (Pu.move rfl) rfl ?_
  refine O.p (Pu.indexK1 (cs := [.pointer (some ⟨g4, 0, none⟩), .pointer (some ⟨g4, 1, none⟩), .pointer (some ⟨g4, 2, none⟩), .pointer (some ⟨g4, 3, none⟩), .pointer (some ⟨g4, 4, none⟩), .pointer (some ⟨g4, 5, none⟩), .pointer (some ⟨g4, 6, none⟩), .pointer (some ⟨g4, 7, none⟩), .pointer (some ⟨g4, 8, none⟩), .pointer (some ⟨g4, 9, none⟩), .pointer (some ⟨g4, 10, none⟩), .pointer (some ⟨g4, 11, none⟩)]) Tryz.runUnderlying53 Tryz.sizeOf52 Tryz.isAgg52 rfl rfl (by decide) (by decide) rfl) rfl ?_
  refine O.p (Pu.assign rfl) rfl ?_
  refine O.p (Pu.assign rfl) rfl ?_
  refine O.nil ?_
  refine J.drawHead 13 Tryz.mixed (by kernel_rfl) ?_
  refine Hd.p (Pu.move rfl) rfl ?_
  refine Hd.p (Pu.move rfl) rfl ?_
  refine Hd.p (Pu.indexAddrK 11 Tryz.runUnderlying53 Tryz.sizeOf52 rfl rfl (by decide) (by decide) rfl) rfl ?_
  refine Hd.q (Qt.ld rfl (Cel.var 4 rfl) (o := 0) (off := 11) rfl (Cut.one Tryz.isAgg52 rfl)) rfl ?_
  refine Hd.p (Pu.nilCheck rfl) rfl ?_
  refine Hd.q (Qt.ld rfl (Cel.var 1 rfl) (o := 0) (off := 11) rfl (Cut.one Tryz.isAgg3 rfl)) rfl ?_
  refine Hd.p (Pu.move rfl) rfl ?_
  refine Hd.p (Pu.indexAddrK 11 Tryz.runUnderlying53 Tryz.sizeOf52 rfl rfl (by decide) (by decide) rfl) rfl ?_
  refine Hd.q (Qt.ld rfl (Cel.var 5 rfl) (o := 0) (off := 11) rfl (Cut.one Tryz.isAgg52 rfl)) rfl ?_
  refine Hd.p (Pu.nilCheck rfl) rfl ?_
  refine Hd.q (Qt.ld rfl (Cel.var 2 rfl) (o := 0) (off := 11) rfl (Cut.one Tryz.isAgg3 rfl)) rfl ?_
  refine Hd.call (vs := [.int .i64 a.d11, .int .i64 b.d11]) (caps := []) (by exact Tryz.call29) rfl rfl (bd_Add a.d11 b.d11) (fun _ _ h => h) RoOk.nil rfl ?_
  refine Hd.p (Pu.nilCheck rfl) rfl ?_
  refine Hd.nil ?_
  refine O.l0 (Lo.store 0 (vs := [.int .i64 (Rp.addC a.d11 b.d11)]) [.int .i64 (Rp.addC a.d0 b.d0), .int .i64 (Rp.addC a.d1 b.d1), .int .i64 (Rp.addC a.d2 b.d2), .int .i64 (Rp.addC a.d3 b.d3), .int .i64 (Rp.addC a.d4 b.d4), .int .i64 (Rp.addC a.d5 b.d5), .int .i64 (Rp.addC a.d6 b.d6), .int .i64 (Rp.addC a.d7 b.d7), .int .i64 (Rp.addC a.d8 b.d8), .int .i64 (Rp.addC a.d9 b.d9), .int .i64 (Rp.addC a.d10 b.d10), .int .i64 (Rp.addC a.d11 b.d11)] rfl rfl rfl (by exact Tryz.sizeOf3) rfl rfl rfl rfl rfl) ?_
  rintro _ _ rfl
  refine O.nil ?_
  refine J.blk ?_
  refine J.region ?_
  refine O.p (Pu.add' rfl rfl (by first | omega | (simp only [List.length_append, List.length_cons, List.length_nil, List.length_set]; omega))) rfl ?_
  refine O.p (Pu.move rfl) rfl ?_
  refine O.nil ?_
  exact J.lp 12 (show 12 ≤ 12 from (by omega)) (show 12 - 12 < 12 - 11 from (by first | omega | decide | (simp; done) | (simp only [List.length_append, List.length_cons, List.length_nil, List.length_take]; omega))) ⟨rfl, rfl, rfl, rfl, rfl, rfl, rfl, (congrArg (fun z => some (Value.int .i64 z)) (by first | rfl | omega : (11 + 1 : Int) = (12 : Int))), trivial⟩ [0, 1, 2, 3, 4, 5] (by decide) rfl
 ·
  show J _ _ [(2, .pointer (some ⟨g1, 0, none⟩)), (3, .pointer (some ⟨g2, 0, none⟩)), (4, .pointer (some ⟨g3, 0, none⟩)), (5, .pointer (some ⟨g4, 0, none⟩)), (6, .pointer (some ⟨g7, 0, none⟩)), (7, .pointer (some ⟨g8, 0, none⟩)), (12, .agg #[.pointer (some ⟨g4, 0, none⟩), .pointer (some ⟨g4, 1, none⟩), .pointer (some ⟨g4, 2, none⟩), .pointer (some ⟨g4, 3, none⟩), .pointer (some ⟨g4, 4, none⟩), .pointer (some ⟨g4, 5, none⟩), .pointer (some ⟨g4, 6, none⟩), .pointer (some ⟨g4, 7, none⟩), .pointer (some ⟨g4, 8, none⟩), .pointer (some ⟨g4, 9, none⟩), .pointer (some ⟨g4, 10, none⟩), .pointer (some ⟨g4, 11, none⟩)]), (13, .int .i64 12)] [var g4 [.int .i64 (Rp.addC a.d0 b.d0), .int .i64 (Rp.addC a.d1 b.d1), .int .i64 (Rp.addC a.d2 b.d2), .int .i64 (Rp.addC a.d3 b.d3), .int .i64 (Rp.addC a.d4 b.d4), .int .i64 (Rp.addC a.d5 b.d5), .int .i64 (Rp.addC a.d6 b.d6), .int .i64 (Rp.addC a.d7 b.d7), .int .i64 (Rp.addC a.d8 b.d8), .int .i64 (Rp.addC a.d9 b.d9), .int .i64 (Rp.addC a.d10 b.d10), .int .i64 (Rp.addC a.d11 b.d11)] 23, var g1 [.int .i64 a.d0, .int .i64 a.d1, .int .i64 a.d2, .int .i64 a.d3, .int .i64 a.d4, .int .i64 a.d5, .int .i64 a.d6, .int .i64 a.d7, .int .i64 a.d8, .int .i64 a.d9, .int .i64 a.d10, .int .i64 a.d11] 23, var g2 [.int .i64 b.d0, .int .i64 b.d1, .int .i64 b.d2, .int .i64 b.d3, .int .i64 b.d4, .int .i64 b.d5, .int .i64 b.d6, .int .i64 b.d7, .int .i64 b.d8, .int .i64 b.d9, .int .i64 b.d10, .int .i64 b.d11] 23, var g3 [.int .i64 0, .int .i64 0, .int .i64 0, .int .i64 0, .int .i64 0, .int .i64 0, .int .i64 0, .int .i64 0, .int .i64 0, .int .i64 0, .int .i64 0, .int .i64 0] 23, var g7 [.pointer (some ⟨g1, 0, none⟩), .pointer (some ⟨g1, 1, none⟩), .pointer (some ⟨g1, 2, none⟩), .pointer (some ⟨g1, 3, none⟩), .pointer (some ⟨g1, 4, none⟩), .pointer (some ⟨g1, 5, none⟩), .pointer (some ⟨g1, 6, none⟩), .pointer (some ⟨g1, 7, none⟩), .pointer (some ⟨g1, 8, none⟩), .pointer (some ⟨g1, 9, none⟩), .pointer (some ⟨g1, 10, none⟩), .pointer (some ⟨g1, 11, none⟩)] 53, var g8 [.pointer (some ⟨g2, 0, none⟩), .pointer (some ⟨g2, 1, none⟩), .pointer (some ⟨g2, 2, none⟩), .pointer (some ⟨g2, 3, none⟩), .pointer (some ⟨g2, 4, none⟩), .pointer (some ⟨g2, 5, none⟩), .pointer (some ⟨g2, 6, none⟩), .pointer (some ⟨g2, 7, none⟩), .pointer (some ⟨g2, 8, none⟩), .pointer (some ⟨g2, 9, none⟩), .pointer (some ⟨g2, 10, none⟩), .pointer (some ⟨g2, 11, none⟩)] 53]
  refine J.seq ?_
  refine J.region ?_
  refine O.p (Pu.lss rfl rfl) rfl ?_
  refine O.nil ?_
  refine J.seq ?_
  refine J.condF rfl rfl ?_
  refine J.exit _ rfl ?_
  refine J.seq ?_
  refine J.region ?_
  refine O.p (Pu.fieldAddr (off' := 10) Tryz.runUnderlying23 rfl Tryz.sizeOf3 rfl rfl rfl) rfl ?_
  refine O.q (Qt.ld rfl (Cel.var 1 rfl) (o := 0) (off := 10) rfl (Cut.one Tryz.isAgg3 rfl)) rfl ?_
  refine O.p (Pu.fieldAddr (off' := 10) Tryz.runUnderlying23 rfl Tryz.sizeOf3 rfl rfl rfl) rfl ?_
  refine O.q (Qt.ld rfl (Cel.var 2 rfl) (o := 0) (off := 10) rfl (Cut.one Tryz.isAgg3 rfl)) rfl ?_
  refine O.p (Pu.max rfl rfl) rfl ?_
  refine O.l (Lo.call [.int .i64 (if b.d10 > a.d10 then b.d10 else a.d10), .int .i64 2147483647] (by exact Tryz.call30) rfl (bd_Keep (if b.d10 > a.d10 then b.d10 else a.d10) 2147483647) [] [0, 1, 2, 3, 4, 5] (by decide) rfl [var g4 [.int .i64 (Rp.addC a.d0 b.d0), .int .i64 (Rp.addC a.d1 b.d1), .int .i64 (Rp.addC a.d2 b.d2), .int .i64 (Rp.addC a.d3 b.d3), .int .i64 (Rp.addC a.d4 b.d4), .int .i64 (Rp.addC a.d5 b.d5), .int .i64 (Rp.addC a.d6 b.d6), .int .i64 (Rp.addC a.d7 b.d7), .int .i64 (Rp.addC a.d8 b.d8), .int .i64 (Rp.addC a.d9 b.d9), .int .i64 (Rp.addC a.d10 b.d10), .int .i64 (Rp.addC a.d11 b.d11)] 23, var g1 [.int .i64 a.d0, .int .i64 a.d1, .int .i64 a.d2, .int .i64 a.d3, .int .i64 a.d4, .int .i64 a.d5, .int .i64 a.d6, .int .i64 a.d7, .int .i64 a.d8, .int .i64 a.d9, .int .i64 a.d10, .int .i64 a.d11] 23, var g2 [.int .i64 b.d0, .int .i64 b.d1, .int .i64 b.d2, .int .i64 b.d3, .int .i64 b.d4, .int .i64 b.d5, .int .i64 b.d6, .int .i64 b.d7, .int .i64 b.d8, .int .i64 b.d9, .int .i64 b.d10, .int .i64 b.d11] 23, var g3 [.int .i64 0, .int .i64 0, .int .i64 0, .int .i64 0, .int .i64 0, .int .i64 0, .int .i64 0, .int .i64 0, .int .i64 0, .int .i64 0, .int .i64 0, .int .i64 0] 23, var g7 [.pointer (some ⟨g1, 0, none⟩), .pointer (some ⟨g1, 1, none⟩), .pointer (some ⟨g1, 2, none⟩), .pointer (some ⟨g1, 3, none⟩), .pointer (some ⟨g1, 4, none⟩), .pointer (some ⟨g1, 5, none⟩), .pointer (some ⟨g1, 6, none⟩), .pointer (some ⟨g1, 7, none⟩), .pointer (some ⟨g1, 8, none⟩), .pointer (some ⟨g1, 9, none⟩), .pointer (some ⟨g1, 10, none⟩), .pointer (some ⟨g1, 11, none⟩)] 53, var g8 [.pointer (some ⟨g2, 0, none⟩), .pointer (some ⟨g2, 1, none⟩), .pointer (some ⟨g2, 2, none⟩), .pointer (some ⟨g2, 3, none⟩), .pointer (some ⟨g2, 4, none⟩), .pointer (some ⟨g2, 5, none⟩), .pointer (some ⟨g2, 6, none⟩), .pointer (some ⟨g2, 7, none⟩), .pointer (some ⟨g2, 8, none⟩), .pointer (some ⟨g2, 9, none⟩), .pointer (some ⟨g2, 10, none⟩), .pointer (some ⟨g2, 11, none⟩)] 53] rfl RoOk.nil) rfl ?_
  rintro _ _ ⟨_, ⟨rfl, rfl⟩, rfl⟩
  refine O.p (Pu.fieldAddr (off' := 10) Tryz.runUnderlying23 rfl Tryz.sizeOf3 rfl rfl rfl) rfl ?_
  refine O.l0 (Lo.store 0 (vs := [.int .i64 (Rp.keep (if b.d10 > a.d10 then b.d10 else a.d10) 2147483647)]) [.int .i64 (Rp.addC a.d0 b.d0), .int .i64 (Rp.addC a.d1 b.d1), .int .i64 (Rp.addC a.d2 b.d2), .int .i64 (Rp.addC a.d3 b.d3), .int .i64 (Rp.addC a.d4 b.d4), .int .i64 (Rp.addC a.d5 b.d5), .int .i64 (Rp.addC a.d6 b.d6), .int .i64 (Rp.addC a.d7 b.d7), .int .i64 (Rp.addC a.d8 b.d8), .int .i64 (Rp.addC a.d9 b.d9), .int .i64 (Rp.keep (if b.d10 > a.d10 then b.d10 else a.d10) 2147483647), .int .i64 (Rp.addC a.d11 b.d11)] rfl rfl rfl (by exact Tryz.sizeOf3) rfl rfl rfl rfl rfl) ?_
  rintro _ _ rfl
  refine O.nil ?_
  refine J.seq ?_
  refine J.region ?_
  refine O.q (Qt.ld rfl (Cel.var 0 rfl) (o := 0) (off := 0) rfl (Cut.agg [.int .i64 (Rp.addC a.d0 b.d0), .int .i64 (Rp.addC a.d1 b.d1), .int .i64 (Rp.addC a.d2 b.d2), .int .i64 (Rp.addC a.d3 b.d3), .int .i64 (Rp.addC a.d4 b.d4), .int .i64 (Rp.addC a.d5 b.d5), .int .i64 (Rp.addC a.d6 b.d6), .int .i64 (Rp.addC a.d7 b.d7), .int .i64 (Rp.addC a.d8 b.d8), .int .i64 (Rp.addC a.d9 b.d9), .int .i64 (Rp.keep (if b.d10 > a.d10 then b.d10 else a.d10) 2147483647), .int .i64 (Rp.addC a.d11 b.d11)] Tryz.isAgg23 Tryz.sizeOf23 rfl rfl)) rfl ?_
  refine O.l (Lo.call [.agg #[.int .i64 (Rp.addC a.d0 b.d0), .int .i64 (Rp.addC a.d1 b.d1), .int .i64 (Rp.addC a.d2 b.d2), .int .i64 (Rp.addC a.d3 b.d3), .int .i64 (Rp.addC a.d4 b.d4), .int .i64 (Rp.addC a.d5 b.d5), .int .i64 (Rp.addC a.d6 b.d6), .int .i64 (Rp.addC a.d7 b.d7), .int .i64 (Rp.addC a.d8 b.d8), .int .i64 (Rp.addC a.d9 b.d9), .int .i64 (Rp.keep (if b.d10 > a.d10 then b.d10 else a.d10) 2147483647), .int .i64 (Rp.addC a.d11 b.d11)]] (by exact Tryz.call31) rfl (rp_share (⟨Rp.addC a.d0 b.d0, Rp.addC a.d1 b.d1, Rp.addC a.d2 b.d2, Rp.addC a.d3 b.d3, Rp.addC a.d4 b.d4, Rp.addC a.d5 b.d5, Rp.addC a.d6 b.d6, Rp.addC a.d7 b.d7, Rp.addC a.d8 b.d8, Rp.addC a.d9 b.d9, Rp.keep (if b.d10 > a.d10 then b.d10 else a.d10) 2147483647, Rp.addC a.d11 b.d11⟩ : Rep)) [] [0, 1, 2, 3, 4, 5] (by decide) rfl [var g4 [.int .i64 (Rp.addC a.d0 b.d0), .int .i64 (Rp.addC a.d1 b.d1), .int .i64 (Rp.addC a.d2 b.d2), .int .i64 (Rp.addC a.d3 b.d3), .int .i64 (Rp.addC a.d4 b.d4), .int .i64 (Rp.addC a.d5 b.d5), .int .i64 (Rp.addC a.d6 b.d6), .int .i64 (Rp.addC a.d7 b.d7), .int .i64 (Rp.addC a.d8 b.d8), .int .i64 (Rp.addC a.d9 b.d9), .int .i64 (Rp.keep (if b.d10 > a.d10 then b.d10 else a.d10) 2147483647), .int .i64 (Rp.addC a.d11 b.d11)] 23, var g1 [.int .i64 a.d0, .int .i64 a.d1, .int .i64 a.d2, .int .i64 a.d3, .int .i64 a.d4, .int .i64 a.d5, .int .i64 a.d6, .int .i64 a.d7, .int .i64 a.d8, .int .i64 a.d9, .int .i64 a.d10, .int .i64 a.d11] 23, var g2 [.int .i64 b.d0, .int .i64 b.d1, .int .i64 b.d2, .int .i64 b.d3, .int .i64 b.d4, .int .i64 b.d5, .int .i64 b.d6, .int .i64 b.d7, .int .i64 b.d8, .int .i64 b.d9, .int .i64 b.d10, .int .i64 b.d11] 23, var g3 [.int .i64 0, .int .i64 0, .int .i64 0, .int .i64 0, .int .i64 0, .int .i64 0, .int .i64 0, .int .i64 0, .int .i64 0, .int .i64 0, .int .i64 0, .int .i64 0] 23, var g7 [.pointer (some ⟨g1, 0, none⟩), .pointer (some ⟨g1, 1, none⟩), .pointer (some ⟨g1, 2, none⟩), .pointer (some ⟨g1, 3, none⟩), .pointer (some ⟨g1, 4, none⟩), .pointer (some ⟨g1, 5, none⟩), .pointer (some ⟨g1, 6, none⟩), .pointer (some ⟨g1, 7, none⟩), .pointer (some ⟨g1, 8, none⟩), .pointer (some ⟨g1, 9, none⟩), .pointer (some ⟨g1, 10, none⟩), .pointer (some ⟨g1, 11, none⟩)] 53, var g8 [.pointer (some ⟨g2, 0, none⟩), .pointer (some ⟨g2, 1, none⟩), .pointer (some ⟨g2, 2, none⟩), .pointer (some ⟨g2, 3, none⟩), .pointer (some ⟨g2, 4, none⟩), .pointer (some ⟨g2, 5, none⟩), .pointer (some ⟨g2, 6, none⟩), .pointer (some ⟨g2, 7, none⟩), .pointer (some ⟨g2, 8, none⟩), .pointer (some ⟨g2, 9, none⟩), .pointer (some ⟨g2, 10, none⟩), .pointer (some ⟨g2, 11, none⟩)] 53] rfl RoOk.nil) rfl ?_
  rintro _ _ ⟨_, ⟨rfl, rfl⟩, rfl⟩
  refine O.p (Pu.fieldAddr (off' := 11) Tryz.runUnderlying23 rfl Tryz.sizeOf3 rfl rfl rfl) rfl ?_
  refine O.l0 (Lo.store 0 (vs := [.int .i64 (Rp.share (Rp.addC a.d4 b.d4) (Rp.addC a.d0 b.d0))]) [.int .i64 (Rp.addC a.d0 b.d0), .int .i64 (Rp.addC a.d1 b.d1), .int .i64 (Rp.addC a.d2 b.d2), .int .i64 (Rp.addC a.d3 b.d3), .int .i64 (Rp.addC a.d4 b.d4), .int .i64 (Rp.addC a.d5 b.d5), .int .i64 (Rp.addC a.d6 b.d6), .int .i64 (Rp.addC a.d7 b.d7), .int .i64 (Rp.addC a.d8 b.d8), .int .i64 (Rp.addC a.d9 b.d9), .int .i64 (Rp.keep (if b.d10 > a.d10 then b.d10 else a.d10) 2147483647), .int .i64 (Rp.share (Rp.addC a.d4 b.d4) (Rp.addC a.d0 b.d0))] rfl rfl rfl (by exact Tryz.sizeOf3) rfl rfl rfl rfl rfl) ?_
  rintro _ _ rfl
  refine O.nil ?_
  refine J.seq ?_
  refine J.region ?_
  refine O.q (Qt.ld rfl (Cel.var 0 rfl) (o := 0) (off := 0) rfl (Cut.agg [.int .i64 (Rp.addC a.d0 b.d0), .int .i64 (Rp.addC a.d1 b.d1), .int .i64 (Rp.addC a.d2 b.d2), .int .i64 (Rp.addC a.d3 b.d3), .int .i64 (Rp.addC a.d4 b.d4), .int .i64 (Rp.addC a.d5 b.d5), .int .i64 (Rp.addC a.d6 b.d6), .int .i64 (Rp.addC a.d7 b.d7), .int .i64 (Rp.addC a.d8 b.d8), .int .i64 (Rp.addC a.d9 b.d9), .int .i64 (Rp.keep (if b.d10 > a.d10 then b.d10 else a.d10) 2147483647), .int .i64 (Rp.share (Rp.addC a.d4 b.d4) (Rp.addC a.d0 b.d0))] Tryz.isAgg23 Tryz.sizeOf23 rfl rfl)) rfl ?_
  refine O.l0 (Lo.store 3 (vs := [.int .i64 (Rp.addC a.d0 b.d0), .int .i64 (Rp.addC a.d1 b.d1), .int .i64 (Rp.addC a.d2 b.d2), .int .i64 (Rp.addC a.d3 b.d3), .int .i64 (Rp.addC a.d4 b.d4), .int .i64 (Rp.addC a.d5 b.d5), .int .i64 (Rp.addC a.d6 b.d6), .int .i64 (Rp.addC a.d7 b.d7), .int .i64 (Rp.addC a.d8 b.d8), .int .i64 (Rp.addC a.d9 b.d9), .int .i64 (Rp.keep (if b.d10 > a.d10 then b.d10 else a.d10) 2147483647), .int .i64 (Rp.share (Rp.addC a.d4 b.d4) (Rp.addC a.d0 b.d0))]) [.int .i64 (Rp.addC a.d0 b.d0), .int .i64 (Rp.addC a.d1 b.d1), .int .i64 (Rp.addC a.d2 b.d2), .int .i64 (Rp.addC a.d3 b.d3), .int .i64 (Rp.addC a.d4 b.d4), .int .i64 (Rp.addC a.d5 b.d5), .int .i64 (Rp.addC a.d6 b.d6), .int .i64 (Rp.addC a.d7 b.d7), .int .i64 (Rp.addC a.d8 b.d8), .int .i64 (Rp.addC a.d9 b.d9), .int .i64 (Rp.keep (if b.d10 > a.d10 then b.d10 else a.d10) 2147483647), .int .i64 (Rp.share (Rp.addC a.d4 b.d4) (Rp.addC a.d0 b.d0))] rfl rfl rfl (by exact Tryz.sizeOf23) rfl rfl rfl rfl rfl) ?_
  rintro _ _ rfl
  refine O.nil ?_
  exact J.ret (Fin.ret (rs := [.cell 4 23]) rfl [_] ⟨⟨_, _, 0, 0, _, rfl, (Cel.var 3 rfl), rfl, (Cut.agg [.int .i64 (Rp.addC a.d0 b.d0), .int .i64 (Rp.addC a.d1 b.d1), .int .i64 (Rp.addC a.d2 b.d2), .int .i64 (Rp.addC a.d3 b.d3), .int .i64 (Rp.addC a.d4 b.d4), .int .i64 (Rp.addC a.d5 b.d5), .int .i64 (Rp.addC a.d6 b.d6), .int .i64 (Rp.addC a.d7 b.d7), .int .i64 (Rp.addC a.d8 b.d8), .int .i64 (Rp.addC a.d9 b.d9), .int .i64 (Rp.keep (if b.d10 > a.d10 then b.d10 else a.d10) 2147483647), .int .i64 (Rp.share (Rp.addC a.d4 b.d4) (Rp.addC a.d0 b.d0))] Tryz.isAgg23 Tryz.sizeOf23 rfl rfl)⟩, trivial⟩ [] (by decide) [] rfl ⟨(by simp only [vOf]; rfl), rfl⟩)

set_option maxRecDepth 100000 in
theorem r01_Sum (zv : Value) (zs : List Int) (hl : zs.length ≤ 100000) : Tri Tryz.prog 36 #[zv] [rd zv 1 (zs.map encZ)] [] (fun v L' => v = .int .i64 (Rp.sumC zs) ∧ L' = []) := by
 refine Tri.enter (args := [zv]) (body := _) 18 Tryz.func36 rfl Tryz.ntmps36 rfl ?_
 intro w0
 refine J.seq ?_
 refine J.region ?_
 refine O.p (Pu.assign rfl) rfl ?_
 refine O.nil ?_
 refine J.seq ?_
 refine J.region ?_
 refine O.p (Pu.assign rfl) rfl ?_
 refine O.nil ?_
 refine J.seq ?_
 refine J.seq ?_
 refine J.region ?_
 refine O.p (Pu.assign rfl) rfl ?_
 refine O.nil ?_
 refine J.block ?_
 refine J.loop (X := Nat × Int) (fun ξ => ξ.1 ≤ zs.length ∧ ξ.2 = (zs.take ξ.1).foldl Rp.addC 0) (fun ξ => [(0, zv), (2, .int .i64 0), (3, .int .i64 ξ.2), (4, .int .i64 (ξ.1 : Int))]) (fun ξ => []) (fun ξ => zs.length - ξ.1) ⟨0, 0⟩ (show 0 ≤ zs.length ∧ 0 = (zs.take 0).foldl Rp.addC 0 from ⟨by omega, rfl⟩) ⟨rfl, rfl, rfl, (congrArg (fun z => some (Value.int .i64 z)) (by first | rfl | omega : (0 : Int) = (0 : Int))), trivial⟩ [] (by decide) rfl ?_
 rintro ⟨k, t⟩ hq1
 obtain ⟨hk, ht⟩ : k ≤ zs.length ∧ t = (zs.take k).foldl Rp.addC 0 := hq1
 show J _ _ [(0, zv), (2, .int .i64 0), (3, .int .i64 t), (4, .int .i64 (k : Int))] []
 refine J.seq ?_
 refine J.seq ?_
 refine J.region ?_
 refine O.p (Pu.move rfl) rfl ?_
 refine O.p (Pu.move rfl) rfl ?_
 refine O.q (Qt.lenM Tryz.runUnderlying34 rfl (Src.ro 0 rfl)) rfl ?_
 refine O.p (Pu.lss rfl rfl) rfl ?_
 refine O.nil ?_
 refine J.cond rfl (fun h2 => ?_) (fun h2 => ?_)
 ·
  have p3 := of_decide_eq_true h2
  refine J.skip ?_
  refine J.seq ?_
  refine J.block ?_
  refine J.region ?_
  refine O.p (Pu.move rfl) rfl ?_
  refine O.p (Pu.move rfl) rfl ?_
  refine O.p (Pu.move rfl) rfl ?_
  obtain ⟨e4, he4⟩ : ∃ x_, zs[k]? = some x_ := ⟨_, List.getElem?_eq_getElem (by omega)⟩
  refine O.q (Qt.idxM Tryz.runUnderlying34 Tryz.sizeOf3 rfl (Src.ro 0 rfl) rfl (by omega) (by omega)) rfl ?_
  refine O.q (Qt.ld rfl (Cel.eltM (Src.ro 0 rfl) he4) (o := (voff zv + k * 1)) (off := 0) (by omega) (Cut.one Tryz.isAgg3 rfl)) rfl ?_
  refine O.l (Lo.call [.int .i64 t, .int .i64 e4] (by exact Tryz.call32) rfl (r01_Add t e4) [] [] (by decide) rfl [] rfl RoOk.nil) rfl ?_
  rintro _ _ ⟨_, ⟨rfl, rfl⟩, rfl⟩
  refine O.p (Pu.assign rfl) rfl ?_
  refine O.nil ?_
  refine J.blk ?_
  refine J.region ?_
  refine O.p (Pu.move rfl) rfl ?_
  refine O.p (Pu.add' rfl rfl (by first | omega | (simp only [List.length_append, List.length_cons, List.length_nil, List.length_set]; omega))) rfl ?_
  refine O.p (Pu.assign rfl) rfl ?_
  refine O.nil ?_
  exact J.lp ⟨k + 1, Rp.addC t e4⟩ (show (k + 1) ≤ zs.length ∧ (Rp.addC t e4) = (zs.take (k + 1)).foldl Rp.addC 0 from ⟨by omega, (by rw [ht, List.take_add_one, he4, List.foldl_append]; rfl)⟩) (show zs.length - (k + 1) < zs.length - k from (by omega)) ⟨rfl, rfl, rfl, (congrArg (fun z => some (Value.int .i64 z)) (by first | rfl | omega : ((k : Int) + 1 : Int) = ((k + 1) : Int))), trivial⟩ [] (by decide) rfl
 ·
  have p6 := of_decide_eq_false h2
  refine J.exit _ rfl ?_
  refine J.seq ?_
  refine J.region ?_
  refine O.p (Pu.move rfl) rfl ?_
  refine O.p (Pu.assign rfl) rfl ?_
  refine O.nil ?_
  exact J.ret (Fin.ret (rs := [.tmp 2]) rfl [_] ⟨rfl, trivial⟩ [] (by decide) [] rfl ⟨(by rw [ht, List.take_of_length_le (by omega)]; rfl), rfl⟩)

set_option maxRecDepth 100000 in
theorem r45_numbers (r : Rep) : Tri Tryz.prog 28 #[.agg #[.int .i64 r.d0, .int .i64 r.d1, .int .i64 r.d2, .int .i64 r.d3, .int .i64 r.d4, .int .i64 r.d5, .int .i64 r.d6, .int .i64 r.d7, .int .i64 r.d8, .int .i64 r.d9, .int .i64 r.d10, .int .i64 r.d11]] [] [] (fun v L' => L' = [row v 3 1 ([r.d0, r.d1, r.d2, r.d3, r.d4, r.d5, r.d6, r.d7, r.d8, r.d9, r.d10, r.d11].map encZ)]) := by
 refine Tri.enter (args := [.agg #[.int .i64 r.d0, .int .i64 r.d1, .int .i64 r.d2, .int .i64 r.d3, .int .i64 r.d4, .int .i64 r.d5, .int .i64 r.d6, .int .i64 r.d7, .int .i64 r.d8, .int .i64 r.d9, .int .i64 r.d10, .int .i64 r.d11]]) (body := _) 28 Tryz.func28 rfl Tryz.ntmps28 rfl ?_
 intro w0
 refine J.seq ?_
 refine J.region ?_
 refine O.l (Lo.box [.int .i64 r.d0, .int .i64 r.d1, .int .i64 r.d2, .int .i64 r.d3, .int .i64 r.d4, .int .i64 r.d5, .int .i64 r.d6, .int .i64 r.d7, .int .i64 r.d8, .int .i64 r.d9, .int .i64 r.d10, .int .i64 r.d11] rfl rfl) rfl ?_
 rintro _ _ ⟨g1, rfl, rfl⟩
 refine O.p (Pu.assign rfl) rfl ?_
 refine O.nil ?_
 refine J.seq ?_
 refine J.region ?_
 refine O.p (Pu.fieldAddr (off' := 0) Tryz.runUnderlying23 rfl Tryz.sizeOf3 rfl rfl rfl) rfl ?_
 refine O.q (Qt.ld rfl (Cel.var 0 rfl) (o := 0) (off := 0) rfl (Cut.one Tryz.isAgg3 rfl)) rfl ?_
 refine O.p (Pu.fieldAddr (off' := 1) Tryz.runUnderlying23 rfl Tryz.sizeOf3 rfl rfl rfl) rfl ?_
 refine O.q (Qt.ld rfl (Cel.var 0 rfl) (o := 0) (off := 1) rfl (Cut.one Tryz.isAgg3 rfl)) rfl ?_
 refine O.p (Pu.fieldAddr (off' := 2) Tryz.runUnderlying23 rfl Tryz.sizeOf3 rfl rfl rfl) rfl ?_
 refine O.q (Qt.ld rfl (Cel.var 0 rfl) (o := 0) (off := 2) rfl (Cut.one Tryz.isAgg3 rfl)) rfl ?_
 refine O.p (Pu.fieldAddr (off' := 3) Tryz.runUnderlying23 rfl Tryz.sizeOf3 rfl rfl rfl) rfl ?_
 refine O.q (Qt.ld rfl (Cel.var 0 rfl) (o := 0) (off := 3) rfl (Cut.one Tryz.isAgg3 rfl)) rfl ?_
 refine O.p (Pu.fieldAddr (off' := 4) Tryz.runUnderlying23 rfl Tryz.sizeOf3 rfl rfl rfl) rfl ?_
 refine O.q (Qt.ld rfl (Cel.var 0 rfl) (o := 0) (off := 4) rfl (Cut.one Tryz.isAgg3 rfl)) rfl ?_
 refine O.p (Pu.fieldAddr (off' := 5) Tryz.runUnderlying23 rfl Tryz.sizeOf3 rfl rfl rfl) rfl ?_
 refine O.q (Qt.ld rfl (Cel.var 0 rfl) (o := 0) (off := 5) rfl (Cut.one Tryz.isAgg3 rfl)) rfl ?_
 refine O.p (Pu.fieldAddr (off' := 6) Tryz.runUnderlying23 rfl Tryz.sizeOf3 rfl rfl rfl) rfl ?_
 refine O.q (Qt.ld rfl (Cel.var 0 rfl) (o := 0) (off := 6) rfl (Cut.one Tryz.isAgg3 rfl)) rfl ?_
 refine O.p (Pu.fieldAddr (off' := 7) Tryz.runUnderlying23 rfl Tryz.sizeOf3 rfl rfl rfl) rfl ?_
 refine O.q (Qt.ld rfl (Cel.var 0 rfl) (o := 0) (off := 7) rfl (Cut.one Tryz.isAgg3 rfl)) rfl ?_
 refine O.p (Pu.fieldAddr (off' := 8) Tryz.runUnderlying23 rfl Tryz.sizeOf3 rfl rfl rfl) rfl ?_
 refine O.q (Qt.ld rfl (Cel.var 0 rfl) (o := 0) (off := 8) rfl (Cut.one Tryz.isAgg3 rfl)) rfl ?_
 refine O.p (Pu.fieldAddr (off' := 9) Tryz.runUnderlying23 rfl Tryz.sizeOf3 rfl rfl rfl) rfl ?_
 refine O.q (Qt.ld rfl (Cel.var 0 rfl) (o := 0) (off := 9) rfl (Cut.one Tryz.isAgg3 rfl)) rfl ?_
 refine O.p (Pu.fieldAddr (off' := 10) Tryz.runUnderlying23 rfl Tryz.sizeOf3 rfl rfl rfl) rfl ?_
 refine O.q (Qt.ld rfl (Cel.var 0 rfl) (o := 0) (off := 10) rfl (Cut.one Tryz.isAgg3 rfl)) rfl ?_
 refine O.p (Pu.fieldAddr (off' := 11) Tryz.runUnderlying23 rfl Tryz.sizeOf3 rfl rfl rfl) rfl ?_
 refine O.q (Qt.ld rfl (Cel.var 0 rfl) (o := 0) (off := 11) rfl (Cut.one Tryz.isAgg3 rfl)) rfl ?_
 refine O.l (Lo.buildM (s := 1) encZ [r.d0, r.d1, r.d2, r.d3, r.d4, r.d5, r.d6, r.d7, r.d8, r.d9, r.d10, r.d11] [(0, .int .i64 r.d0), (1, .int .i64 r.d1), (2, .int .i64 r.d2), (3, .int .i64 r.d3), (4, .int .i64 r.d4), (5, .int .i64 r.d5), (6, .int .i64 r.d6), (7, .int .i64 r.d7), (8, .int .i64 r.d8), (9, .int .i64 r.d9), (10, .int .i64 r.d10), (11, .int .i64 r.d11)] (by exact Tryz.runUnderlying34) (by exact Tryz.sizeOf3) (by exact Tryz.zeroValue3) rfl rfl rfl (by kernel_rfl) rfl rfl) rfl ?_
 rintro V2 _ rfl
 refine O.p (Pu.assign rfl) rfl ?_
 refine O.nil ?_
 exact J.ret (Fin.ret (rs := [.tmp 2]) rfl [_] ⟨rfl, trivial⟩ [0] (by decide) [row V2 3 1 (([r.d0, r.d1, r.d2, r.d3, r.d4, r.d5, r.d6, r.d7, r.d8, r.d9, r.d10, r.d11]).map encZ)] rfl rfl)

set_option maxRecDepth 100000 in
set_option maxHeartbeats 1000000 in
theorem r45_report (lv : Value) (y0 y1 y2 y3 y4 y5 y6 y7 y8 y9 y10 y11 : Int) : Tri Tryz.prog 25 #[lv] [rd lv 1 (([y0, y1, y2, y3, y4, y5, y6, y7, y8, y9, y10, y11]).map encZ)] [] (fun v L' => v = .agg #[.int .i64 y0, .int .i64 y1, .int .i64 y2, .int .i64 y3, .int .i64 y4, .int .i64 y5, .int .i64 y6, .int .i64 y7, .int .i64 y8, .int .i64 y9, .int .i64 y10, .int .i64 y11] ∧ L' = []) := by
 refine Tri.enter (args := [lv]) (body := _) 40 Tryz.func25 rfl Tryz.ntmps25 rfl ?_
 intro w0
 refine J.seq ?_
 refine J.region ?_
 refine O.l (Lo.alloc [.int .i64 0, .int .i64 0, .int .i64 0, .int .i64 0, .int .i64 0, .int .i64 0, .int .i64 0, .int .i64 0, .int .i64 0, .int .i64 0, .int .i64 0, .int .i64 0] (by exact Tryz.zeroValue23) rfl) rfl ?_
 rintro _ _ ⟨g1, rfl, rfl⟩
 refine O.nil ?_
 refine J.seq ?_
 refine J.drawTail 37 Tryz.mixed (by kernel_rfl) ?_
 refine S.p (Pu.move rfl) rfl ?_
 have he2 : ([y0, y1, y2, y3, y4, y5, y6, y7, y8, y9, y10, y11])[0]? = some y0 := rfl
 refine S.q (Qt.idxM Tryz.runUnderlying34 Tryz.sizeOf3 rfl (Src.ro 0 rfl) rfl (by first | omega | decide | (simp; done) | (simp only [List.length_append, List.length_cons, List.length_nil, List.length_take]; omega)) (by first | omega | decide | (simp; done) | (simp only [List.length_append, List.length_cons, List.length_nil, List.length_take]; omega))) rfl ?_
 refine S.q (Qt.ld rfl (Cel.eltM (Src.ro 0 rfl) he2) (o := (voff lv + 0 * 1)) (off := 0) (by omega) (Cut.one Tryz.isAgg3 rfl)) rfl ?_
 refine S.p (Pu.move rfl) rfl ?_
 have he3 : ([y0, y1, y2, y3, y4, y5, y6, y7, y8, y9, y10, y11])[1]? = some y1 := rfl
 refine S.q (Qt.idxM Tryz.runUnderlying34 Tryz.sizeOf3 rfl (Src.ro 0 rfl) rfl (by first | omega | decide | (simp; done) | (simp only [List.length_append, List.length_cons, List.length_nil, List.length_take]; omega)) (by first | omega | decide | (simp; done) | (simp only [List.length_append, List.length_cons, List.length_nil, List.length_take]; omega))) rfl ?_
 refine S.q (Qt.ld rfl (Cel.eltM (Src.ro 0 rfl) he3) (o := (voff lv + 1 * 1)) (off := 0) (by omega) (Cut.one Tryz.isAgg3 rfl)) rfl ?_
 refine S.p (Pu.move rfl) rfl ?_
 have he4 : ([y0, y1, y2, y3, y4, y5, y6, y7, y8, y9, y10, y11])[2]? = some y2 := rfl
 refine S.q (Qt.idxM Tryz.runUnderlying34 Tryz.sizeOf3 rfl (Src.ro 0 rfl) rfl (by first | omega | decide | (simp; done) | (simp only [List.length_append, List.length_cons, List.length_nil, List.length_take]; omega)) (by first | omega | decide | (simp; done) | (simp only [List.length_append, List.length_cons, List.length_nil, List.length_take]; omega))) rfl ?_
 refine S.q (Qt.ld rfl (Cel.eltM (Src.ro 0 rfl) he4) (o := (voff lv + 2 * 1)) (off := 0) (by omega) (Cut.one Tryz.isAgg3 rfl)) rfl ?_
 refine S.p (Pu.move rfl) rfl ?_
 have he5 : ([y0, y1, y2, y3, y4, y5, y6, y7, y8, y9, y10, y11])[3]? = some y3 := rfl
 refine S.q (Qt.idxM Tryz.runUnderlying34 Tryz.sizeOf3 rfl (Src.ro 0 rfl) rfl (by first | omega | decide | (simp; done) | (simp only [List.length_append, List.length_cons, List.length_nil, List.length_take]; omega)) (by first | omega | decide | (simp; done) | (simp only [List.length_append, List.length_cons, List.length_nil, List.length_take]; omega))) rfl ?_
 refine S.q (Qt.ld rfl (Cel.eltM (Src.ro 0 rfl) he5) (o := (voff lv + 3 * 1)) (off := 0) (by omega) (Cut.one Tryz.isAgg3 rfl)) rfl ?_
 refine S.p (Pu.move rfl) rfl ?_
 have he6 : ([y0, y1, y2, y3, y4, y5, y6, y7, y8, y9, y10, y11])[4]? = some y4 := rfl
 refine S.q (Qt.idxM Tryz.runUnderlying34 Tryz.sizeOf3 rfl (Src.ro 0 rfl) rfl (by first | omega | decide | (simp; done) | (simp only [List.length_append, List.length_cons, List.length_nil, List.length_take]; omega)) (by first | omega | decide | (simp; done) | (simp only [List.length_append, List.length_cons, List.length_nil, List.length_take]; omega))) rfl ?_
 refine S.q (Qt.ld rfl (Cel.eltM (Src.ro 0 rfl) he6) (o := (voff lv + 4 * 1)) (off := 0) (by omega) (Cut.one Tryz.isAgg3 rfl)) rfl ?_
 refine S.p (Pu.move rfl) rfl ?_
 have he7 : ([y0, y1, y2, y3, y4, y5, y6, y7, y8, y9, y10, y11])[5]? = some y5 := rfl
 refine S.q (Qt.idxM Tryz.runUnderlying34 Tryz.sizeOf3 rfl (Src.ro 0 rfl) rfl (by first | omega | decide | (simp; done) | (simp only [List.length_append, List.length_cons, List.length_nil, List.length_take]; omega)) (by first | omega | decide | (simp; done) | (simp only [List.length_append, List.length_cons, List.length_nil, List.length_take]; omega))) rfl ?_
 refine S.q (Qt.ld rfl (Cel.eltM (Src.ro 0 rfl) he7) (o := (voff lv + 5 * 1)) (off := 0) (by omega) (Cut.one Tryz.isAgg3 rfl)) rfl ?_
 refine S.p (Pu.move rfl) rfl ?_
 have he8 : ([y0, y1, y2, y3, y4, y5, y6, y7, y8, y9, y10, y11])[6]? = some y6 := rfl
 refine S.q (Qt.idxM Tryz.runUnderlying34 Tryz.sizeOf3 rfl (Src.ro 0 rfl) rfl (by first | omega | decide | (simp; done) | (simp only [List.length_append, List.length_cons, List.length_nil, List.length_take]; omega)) (by first | omega | decide | (simp; done) | (simp only [List.length_append, List.length_cons, List.length_nil, List.length_take]; omega))) rfl ?_
 refine S.q (Qt.ld rfl (Cel.eltM (Src.ro 0 rfl) he8) (o := (voff lv + 6 * 1)) (off := 0) (by omega) (Cut.one Tryz.isAgg3 rfl)) rfl ?_
 refine S.p (Pu.move rfl) rfl ?_
 have he9 : ([y0, y1, y2, y3, y4, y5, y6, y7, y8, y9, y10, y11])[7]? = some y7 := rfl
 refine S.q (Qt.idxM Tryz.runUnderlying34 Tryz.sizeOf3 rfl (Src.ro 0 rfl) rfl (by first | omega | decide | (simp; done) | (simp only [List.length_append, List.length_cons, List.length_nil, List.length_take]; omega)) (by first | omega | decide | (simp; done) | (simp only [List.length_append, List.length_cons, List.length_nil, List.length_take]; omega))) rfl ?_
 refine S.q (Qt.ld rfl (Cel.eltM (Src.ro 0 rfl) he9) (o := (voff lv + 7 * 1)) (off := 0) (by omega) (Cut.one Tryz.isAgg3 rfl)) rfl ?_
 refine S.p (Pu.move rfl) rfl ?_
 have he10 : ([y0, y1, y2, y3, y4, y5, y6, y7, y8, y9, y10, y11])[8]? = some y8 := rfl
 refine S.q (Qt.idxM Tryz.runUnderlying34 Tryz.sizeOf3 rfl (Src.ro 0 rfl) rfl (by first | omega | decide | (simp; done) | (simp only [List.length_append, List.length_cons, List.length_nil, List.length_take]; omega)) (by first | omega | decide | (simp; done) | (simp only [List.length_append, List.length_cons, List.length_nil, List.length_take]; omega))) rfl ?_
 refine S.q (Qt.ld rfl (Cel.eltM (Src.ro 0 rfl) he10) (o := (voff lv + 8 * 1)) (off := 0) (by omega) (Cut.one Tryz.isAgg3 rfl)) rfl ?_
 refine S.p (Pu.move rfl) rfl ?_
 have he11 : ([y0, y1, y2, y3, y4, y5, y6, y7, y8, y9, y10, y11])[9]? = some y9 := rfl
 refine S.q (Qt.idxM Tryz.runUnderlying34 Tryz.sizeOf3 rfl (Src.ro 0 rfl) rfl (by first | omega | decide | (simp; done) | (simp only [List.length_append, List.length_cons, List.length_nil, List.length_take]; omega)) (by first | omega | decide | (simp; done) | (simp only [List.length_append, List.length_cons, List.length_nil, List.length_take]; omega))) rfl ?_
 refine S.q (Qt.ld rfl (Cel.eltM (Src.ro 0 rfl) he11) (o := (voff lv + 9 * 1)) (off := 0) (by omega) (Cut.one Tryz.isAgg3 rfl)) rfl ?_
 refine S.p (Pu.move rfl) rfl ?_
 have he12 : ([y0, y1, y2, y3, y4, y5, y6, y7, y8, y9, y10, y11])[10]? = some y10 := rfl
 refine S.q (Qt.idxM Tryz.runUnderlying34 Tryz.sizeOf3 rfl (Src.ro 0 rfl) rfl (by first | omega | decide | (simp; done) | (simp only [List.length_append, List.length_cons, List.length_nil, List.length_take]; omega)) (by first | omega | decide | (simp; done) | (simp only [List.length_append, List.length_cons, List.length_nil, List.length_take]; omega))) rfl ?_
 refine S.q (Qt.ld rfl (Cel.eltM (Src.ro 0 rfl) he12) (o := (voff lv + 10 * 1)) (off := 0) (by omega) (Cut.one Tryz.isAgg3 rfl)) rfl ?_
 refine S.p (Pu.move rfl) rfl ?_
 have he13 : ([y0, y1, y2, y3, y4, y5, y6, y7, y8, y9, y10, y11])[11]? = some y11 := rfl
 refine S.q (Qt.idxM Tryz.runUnderlying34 Tryz.sizeOf3 rfl (Src.ro 0 rfl) rfl (by first | omega | decide | (simp; done) | (simp only [List.length_append, List.length_cons, List.length_nil, List.length_take]; omega)) (by first | omega | decide | (simp; done) | (simp only [List.length_append, List.length_cons, List.length_nil, List.length_take]; omega))) rfl ?_
 refine S.q (Qt.ld rfl (Cel.eltM (Src.ro 0 rfl) he13) (o := (voff lv + 11 * 1)) (off := 0) (by omega) (Cut.one Tryz.isAgg3 rfl)) rfl ?_
 refine S.p (Pu.build [(0, .int .i64 y0), (1, .int .i64 y1), (2, .int .i64 y2), (3, .int .i64 y3), (4, .int .i64 y4), (5, .int .i64 y5), (6, .int .i64 y6), (7, .int .i64 y7), (8, .int .i64 y8), (9, .int .i64 y9), (10, .int .i64 y10), (11, .int .i64 y11)] [.int .i64 y0, .int .i64 y1, .int .i64 y2, .int .i64 y3, .int .i64 y4, .int .i64 y5, .int .i64 y6, .int .i64 y7, .int .i64 y8, .int .i64 y9, .int .i64 y10, .int .i64 y11] #[(0, 1), (1, 1), (2, 1), (3, 1), (4, 1), (5, 1), (6, 1), (7, 1), (8, 1), (9, 1), (10, 1), (11, 1)] Tryz.runUnderlying23 Tryz.zeroValue23 (places23 Tryz.underlying23) rfl (by kernel_rfl)) rfl ?_
 refine S.endO ?_
 refine O.l0 (Lo.store 0 (vs := [.int .i64 y0, .int .i64 y1, .int .i64 y2, .int .i64 y3, .int .i64 y4, .int .i64 y5, .int .i64 y6, .int .i64 y7, .int .i64 y8, .int .i64 y9, .int .i64 y10, .int .i64 y11]) [.int .i64 y0, .int .i64 y1, .int .i64 y2, .int .i64 y3, .int .i64 y4, .int .i64 y5, .int .i64 y6, .int .i64 y7, .int .i64 y8, .int .i64 y9, .int .i64 y10, .int .i64 y11] rfl rfl rfl (by exact Tryz.sizeOf23) rfl rfl rfl rfl rfl) ?_
 rintro _ _ rfl
 refine O.nil ?_
 exact J.ret (Fin.ret (rs := [.cell 2 23]) rfl [_] ⟨⟨_, _, 0, 0, _, rfl, (Cel.var 0 rfl), rfl, (Cut.agg [.int .i64 y0, .int .i64 y1, .int .i64 y2, .int .i64 y3, .int .i64 y4, .int .i64 y5, .int .i64 y6, .int .i64 y7, .int .i64 y8, .int .i64 y9, .int .i64 y10, .int .i64 y11] Tryz.isAgg23 Tryz.sizeOf23 rfl rfl)⟩, trivial⟩ [] (by decide) [] rfl ⟨rfl, rfl⟩)

set_option maxRecDepth 100000 in
theorem r45_Line (r : Rep) (hI : Kn.I64s (Rp.nums r)) : Tri Tryz.prog 9 #[.agg #[.int .i64 r.d0, .int .i64 r.d1, .int .i64 r.d2, .int .i64 r.d3, .int .i64 r.d4, .int .i64 r.d5, .int .i64 r.d6, .int .i64 r.d7, .int .i64 r.d8, .int .i64 r.d9, .int .i64 r.d10, .int .i64 r.d11]] [] [] (fun v L' => v = str (Rp.line r) ∧ L' = []) := by
 refine Tri.enter (args := [.agg #[.int .i64 r.d0, .int .i64 r.d1, .int .i64 r.d2, .int .i64 r.d3, .int .i64 r.d4, .int .i64 r.d5, .int .i64 r.d6, .int .i64 r.d7, .int .i64 r.d8, .int .i64 r.d9, .int .i64 r.d10, .int .i64 r.d11]]) (body := _) 7 Tryz.func9 rfl Tryz.ntmps9 rfl ?_
 intro w0
 refine J.seq ?_
 refine J.region ?_
 refine O.l (Lo.box [.int .i64 r.d0, .int .i64 r.d1, .int .i64 r.d2, .int .i64 r.d3, .int .i64 r.d4, .int .i64 r.d5, .int .i64 r.d6, .int .i64 r.d7, .int .i64 r.d8, .int .i64 r.d9, .int .i64 r.d10, .int .i64 r.d11] rfl rfl) rfl ?_
 rintro _ _ ⟨g1, rfl, rfl⟩
 refine O.p (Pu.assign rfl) rfl ?_
 refine O.nil ?_
 refine J.seq ?_
 refine J.drawMix [(1, false), (0, true), (2, true), (3, false), (4, false)] [0] [var g1 [.int .i64 r.d0, .int .i64 r.d1, .int .i64 r.d2, .int .i64 r.d3, .int .i64 r.d4, .int .i64 r.d5, .int .i64 r.d6, .int .i64 r.d7, .int .i64 r.d8, .int .i64 r.d9, .int .i64 r.d10, .int .i64 r.d11] 23] Tryz.mixed (by kernel_rfl) (by decide) rfl ?_
 refine Mx.q rfl (Qt.ld rfl (Cel.var 0 rfl) (o := 0) (off := 0) rfl (Cut.agg [.int .i64 r.d0, .int .i64 r.d1, .int .i64 r.d2, .int .i64 r.d3, .int .i64 r.d4, .int .i64 r.d5, .int .i64 r.d6, .int .i64 r.d7, .int .i64 r.d8, .int .i64 r.d9, .int .i64 r.d10, .int .i64 r.d11] Tryz.isAgg23 Tryz.sizeOf23 rfl rfl)) rfl ?_
 refine Mx.l rfl (Lo.call [] (by exact Tryz.call24) rfl r45_names [] [0] (by decide) rfl [var g1 [.int .i64 r.d0, .int .i64 r.d1, .int .i64 r.d2, .int .i64 r.d3, .int .i64 r.d4, .int .i64 r.d5, .int .i64 r.d6, .int .i64 r.d7, .int .i64 r.d8, .int .i64 r.d9, .int .i64 r.d10, .int .i64 r.d11] 23] rfl RoOk.nil) rfl ?_
 rintro v2 _ ⟨_, rfl, rfl⟩
 refine MxK.go [0, 1] [1] [row v2 9 1 (Rp.names.map encS), var g1 [.int .i64 r.d0, .int .i64 r.d1, .int .i64 r.d2, .int .i64 r.d3, .int .i64 r.d4, .int .i64 r.d5, .int .i64 r.d6, .int .i64 r.d7, .int .i64 r.d8, .int .i64 r.d9, .int .i64 r.d10, .int .i64 r.d11] 23] (by decide) rfl (by decide) rfl ?_
 refine Mx.l rfl (Lo.call [.agg #[.int .i64 r.d0, .int .i64 r.d1, .int .i64 r.d2, .int .i64 r.d3, .int .i64 r.d4, .int .i64 r.d5, .int .i64 r.d6, .int .i64 r.d7, .int .i64 r.d8, .int .i64 r.d9, .int .i64 r.d10, .int .i64 r.d11]] (by exact Tryz.call28) rfl (r45_numbers r) [] [0, 1] (by decide) rfl [row v2 9 1 (Rp.names.map encS), var g1 [.int .i64 r.d0, .int .i64 r.d1, .int .i64 r.d2, .int .i64 r.d3, .int .i64 r.d4, .int .i64 r.d5, .int .i64 r.d6, .int .i64 r.d7, .int .i64 r.d8, .int .i64 r.d9, .int .i64 r.d10, .int .i64 r.d11] 23] rfl RoOk.nil) rfl ?_
 rintro v3 _ ⟨_, rfl, rfl⟩
 refine MxK.all [0, 1, 2] [row v3 3 1 (([r.d0, r.d1, r.d2, r.d3, r.d4, r.d5, r.d6, r.d7, r.d8, r.d9, r.d10, r.d11]).map encZ), row v2 9 1 (Rp.names.map encS), var g1 [.int .i64 r.d0, .int .i64 r.d1, .int .i64 r.d2, .int .i64 r.d3, .int .i64 r.d4, .int .i64 r.d5, .int .i64 r.d6, .int .i64 r.d7, .int .i64 r.d8, .int .i64 r.d9, .int .i64 r.d10, .int .i64 r.d11] 23] (by decide) rfl (by kernel_rfl) ?_
 refine Mx.call (vs := [str ([114, 101, 112, 111, 114, 116]), v2, v3]) (caps := []) rfl (by exact Tryz.call27) rfl rfl (r28_Row ([114, 101, 112, 111, 114, 116]) v2 Rp.names v3 ([r.d0, r.d1, r.d2, r.d3, r.d4, r.d5, r.d6, r.d7, r.d8, r.d9, r.d10, r.d11]) (by decide) (fun x h => Nat.le_trans (Rp.names_le x h) (by decide)) (by decide) (by exact Nat.le_of_ble_eq_true rfl) hI) (fun _ _ h => h) (RoOk.of 1 rfl row_rd [] (by decide) rfl (RoOk.of 0 rfl row_rd [] (by decide) rfl RoOk.nil)) rfl ?_
 refine Mx.p rfl (Pu.assign rfl) rfl ?_
 refine Mx.nil ?_
 exact J.ret (Fin.ret (rs := [.tmp 2]) rfl [_] ⟨rfl, trivial⟩ [] (by decide) [] rfl ⟨rfl, rfl⟩)

set_option maxRecDepth 100000 in
set_option maxHeartbeats 1000000 in
theorem r45_Parse (line : Wd.Bs) (hs : line.length ≤ 100000) : Tri Tryz.prog 7 #[str line] [] [] (fun v L' => v = .tuple #[.agg #[.int .i64 (((Rp.parse line).1).d0), .int .i64 (((Rp.parse line).1).d1), .int .i64 (((Rp.parse line).1).d2), .int .i64 (((Rp.parse line).1).d3), .int .i64 (((Rp.parse line).1).d4), .int .i64 (((Rp.parse line).1).d5), .int .i64 (((Rp.parse line).1).d6), .int .i64 (((Rp.parse line).1).d7), .int .i64 (((Rp.parse line).1).d8), .int .i64 (((Rp.parse line).1).d9), .int .i64 (((Rp.parse line).1).d10), .int .i64 (((Rp.parse line).1).d11)], .int .i64 (Rp.parse line).2] ∧ L' = []) := by
 refine Tri.enter (args := [str line]) (body := _) 17 Tryz.func7 rfl Tryz.ntmps7 rfl ?_
 intro w0
 refine J.seq ?_
 refine J.region ?_
 refine O.l (Lo.alloc [.int .i64 0, .int .i64 0, .int .i64 0, .int .i64 0, .int .i64 0, .int .i64 0, .int .i64 0, .int .i64 0, .int .i64 0, .int .i64 0, .int .i64 0, .int .i64 0] (by exact Tryz.zeroValue23) rfl) rfl ?_
 rintro _ _ ⟨g1, rfl, rfl⟩
 refine O.p (Pu.assign rfl) rfl ?_
 refine O.nil ?_
 refine J.seq ?_
 refine J.region ?_
 refine O.p (Pu.move rfl) rfl ?_
 refine O.l (Lo.call [] (by exact Tryz.call24) rfl r45_names [] [0] (by decide) rfl [var g1 [.int .i64 0, .int .i64 0, .int .i64 0, .int .i64 0, .int .i64 0, .int .i64 0, .int .i64 0, .int .i64 0, .int .i64 0, .int .i64 0, .int .i64 0, .int .i64 0] 23] rfl RoOk.nil) rfl ?_
 rintro v2 _ ⟨_, rfl, rfl⟩
 refine O.l (Lo.call [str line, str ([114, 101, 112, 111, 114, 116]), v2] (by exact Tryz.call23) rfl (r28_Numbers line ([114, 101, 112, 111, 114, 116]) v2 Rp.names (by omega) (by decide) (fun x h => Nat.le_trans (Rp.names_le x h) (by decide))) [] [0, 1] (by decide) rfl [row v2 9 1 (Rp.names.map encS), var g1 [.int .i64 0, .int .i64 0, .int .i64 0, .int .i64 0, .int .i64 0, .int .i64 0, .int .i64 0, .int .i64 0, .int .i64 0, .int .i64 0, .int .i64 0, .int .i64 0] 23] rfl (RoOk.of 0 rfl row_rd [] (by decide) rfl RoOk.nil)) rfl ?_
 rintro _ _ ⟨_, ⟨V3, rfl, rfl⟩, rfl⟩
 refine O.p (Pu.move rfl) rfl ?_
 refine O.p (Pu.extract rfl rfl) rfl ?_
 refine O.p (Pu.extract rfl rfl) rfl ?_
 refine O.p (Pu.assign rfl) rfl ?_
 refine O.p (Pu.assign rfl) rfl ?_
 refine O.nil ?_
 refine J.seq ?_
 refine J.seq ?_
 refine J.region ?_
 refine O.p (Pu.move rfl) rfl ?_
 refine O.p (Pu.not rfl) rfl ?_
 refine O.nil ?_
 refine J.cond rfl (fun h5 => ?_) (fun h5 => ?_)
 ·
  have h6 : ((Cf.numbers line ([114, 101, 112, 111, 114, 116]) Rp.names).2) = false := not_flip h5
  refine J.seq ?_
  refine J.region ?_
  refine O.p (Pu.build [] [.int .i64 0, .int .i64 0, .int .i64 0, .int .i64 0, .int .i64 0, .int .i64 0, .int .i64 0, .int .i64 0, .int .i64 0, .int .i64 0, .int .i64 0, .int .i64 0] #[(0, 1), (1, 1), (2, 1), (3, 1), (4, 1), (5, 1), (6, 1), (7, 1), (8, 1), (9, 1), (10, 1), (11, 1)] Tryz.runUnderlying23 Tryz.zeroValue23 (places23 Tryz.underlying23) rfl (by kernel_rfl)) rfl ?_
  refine O.l0 (Lo.store 2 (vs := [.int .i64 0, .int .i64 0, .int .i64 0, .int .i64 0, .int .i64 0, .int .i64 0, .int .i64 0, .int .i64 0, .int .i64 0, .int .i64 0, .int .i64 0, .int .i64 0]) [.int .i64 0, .int .i64 0, .int .i64 0, .int .i64 0, .int .i64 0, .int .i64 0, .int .i64 0, .int .i64 0, .int .i64 0, .int .i64 0, .int .i64 0, .int .i64 0] rfl rfl rfl (by exact Tryz.sizeOf23) rfl rfl rfl rfl rfl) ?_
  rintro _ _ rfl
  refine O.p (Pu.assign rfl) rfl ?_
  refine O.nil ?_
  exact J.ret (Fin.ret (rs := [.cell 2 23, .tmp 3]) rfl [_, _] ⟨⟨_, _, 0, 0, _, rfl, (Cel.var 2 rfl), rfl, (Cut.agg [.int .i64 0, .int .i64 0, .int .i64 0, .int .i64 0, .int .i64 0, .int .i64 0, .int .i64 0, .int .i64 0, .int .i64 0, .int .i64 0, .int .i64 0, .int .i64 0] Tryz.isAgg23 Tryz.sizeOf23 rfl rfl)⟩, rfl, trivial⟩ [] (by decide) [] rfl ⟨(by rw [Rp.parse_no' ‹_›]; rfl), rfl⟩)
 ·
  have h7 : ((Cf.numbers line ([114, 101, 112, 111, 114, 116]) Rp.names).2) = true := not_flip h5
  refine J.skip ?_
  refine J.seq ?_
  obtain ⟨y0, y1, y2, y3, y4, y5, y6, y7, y8, y9, y10, y11, hy⟩ := Rp.ex12 ((Cf.numbers_len (by assumption : (Cf.numbers line [114, 101, 112, 111, 114, 116] Rp.names).2 = true)).trans Rp.names_len)
  rw [hy]
  show J _ _ _ [row V3 3 1 (([y0, y1, y2, y3, y4, y5, y6, y7, y8, y9, y10, y11]).map encZ), row v2 9 1 (Rp.names.map encS), var g1 [.int .i64 0, .int .i64 0, .int .i64 0, .int .i64 0, .int .i64 0, .int .i64 0, .int .i64 0, .int .i64 0, .int .i64 0, .int .i64 0, .int .i64 0, .int .i64 0] 23]
  refine J.region ?_
  refine O.p (Pu.move rfl) rfl ?_
  refine O.l (Lo.call [V3] (by exact Tryz.call25) rfl (r45_report V3 y0 y1 y2 y3 y4 y5 y6 y7 y8 y9 y10 y11) [] [0, 1, 2] (by decide) rfl [row V3 3 1 (([y0, y1, y2, y3, y4, y5, y6, y7, y8, y9, y10, y11]).map encZ), row v2 9 1 (Rp.names.map encS), var g1 [.int .i64 0, .int .i64 0, .int .i64 0, .int .i64 0, .int .i64 0, .int .i64 0, .int .i64 0, .int .i64 0, .int .i64 0, .int .i64 0, .int .i64 0, .int .i64 0] 23] rfl (RoOk.of 0 rfl row_rd [] (by decide) rfl RoOk.nil)) rfl ?_
  rintro _ _ ⟨_, ⟨rfl, rfl⟩, rfl⟩
  refine O.l0 (Lo.store 2 (vs := [.int .i64 y0, .int .i64 y1, .int .i64 y2, .int .i64 y3, .int .i64 y4, .int .i64 y5, .int .i64 y6, .int .i64 y7, .int .i64 y8, .int .i64 y9, .int .i64 y10, .int .i64 y11]) [.int .i64 y0, .int .i64 y1, .int .i64 y2, .int .i64 y3, .int .i64 y4, .int .i64 y5, .int .i64 y6, .int .i64 y7, .int .i64 y8, .int .i64 y9, .int .i64 y10, .int .i64 y11] rfl rfl rfl (by exact Tryz.sizeOf23) rfl rfl rfl rfl rfl) ?_
  rintro _ _ rfl
  refine O.p (Pu.assign rfl) rfl ?_
  refine O.nil ?_
  exact J.ret (Fin.ret (rs := [.cell 2 23, .tmp 3]) rfl [_, _] ⟨⟨_, _, 0, 0, _, rfl, (Cel.var 2 rfl), rfl, (Cut.agg [.int .i64 y0, .int .i64 y1, .int .i64 y2, .int .i64 y3, .int .i64 y4, .int .i64 y5, .int .i64 y6, .int .i64 y7, .int .i64 y8, .int .i64 y9, .int .i64 y10, .int .i64 y11] Tryz.isAgg23 Tryz.sizeOf23 rfl rfl)⟩, rfl, trivial⟩ [] (by decide) [] rfl ⟨(by rw [Rp.parse_yes ‹_›, hy]; rfl), rfl⟩)

set_option maxRecDepth 100000 in
set_option maxHeartbeats 1000000 in
theorem r45_Add (a b : Rep) : Tri Tryz.prog 11 #[.agg #[.int .i64 a.d0, .int .i64 a.d1, .int .i64 a.d2, .int .i64 a.d3, .int .i64 a.d4, .int .i64 a.d5, .int .i64 a.d6, .int .i64 a.d7, .int .i64 a.d8, .int .i64 a.d9, .int .i64 a.d10, .int .i64 a.d11], .agg #[.int .i64 b.d0, .int .i64 b.d1, .int .i64 b.d2, .int .i64 b.d3, .int .i64 b.d4, .int .i64 b.d5, .int .i64 b.d6, .int .i64 b.d7, .int .i64 b.d8, .int .i64 b.d9, .int .i64 b.d10, .int .i64 b.d11]] [] [] (fun v L' => v = .agg #[.int .i64 ((Rp.plus a b).d0), .int .i64 ((Rp.plus a b).d1), .int .i64 ((Rp.plus a b).d2), .int .i64 ((Rp.plus a b).d3), .int .i64 ((Rp.plus a b).d4), .int .i64 ((Rp.plus a b).d5), .int .i64 ((Rp.plus a b).d6), .int .i64 ((Rp.plus a b).d7), .int .i64 ((Rp.plus a b).d8), .int .i64 ((Rp.plus a b).d9), .int .i64 ((Rp.plus a b).d10), .int .i64 ((Rp.plus a b).d11)] ∧ L' = []) := by
 refine Tri.enter (args := [.agg #[.int .i64 a.d0, .int .i64 a.d1, .int .i64 a.d2, .int .i64 a.d3, .int .i64 a.d4, .int .i64 a.d5, .int .i64 a.d6, .int .i64 a.d7, .int .i64 a.d8, .int .i64 a.d9, .int .i64 a.d10, .int .i64 a.d11], .agg #[.int .i64 b.d0, .int .i64 b.d1, .int .i64 b.d2, .int .i64 b.d3, .int .i64 b.d4, .int .i64 b.d5, .int .i64 b.d6, .int .i64 b.d7, .int .i64 b.d8, .int .i64 b.d9, .int .i64 b.d10, .int .i64 b.d11]]) (body := _) 49 Tryz.func11 rfl Tryz.ntmps11 rfl ?_
 intro w0
 refine J.seq ?_
 refine J.region ?_
 refine O.l (Lo.box [.int .i64 a.d0, .int .i64 a.d1, .int .i64 a.d2, .int .i64 a.d3, .int .i64 a.d4, .int .i64 a.d5, .int .i64 a.d6, .int .i64 a.d7, .int .i64 a.d8, .int .i64 a.d9, .int .i64 a.d10, .int .i64 a.d11] rfl rfl) rfl ?_
 rintro _ _ ⟨g1, rfl, rfl⟩
 refine O.l (Lo.box [.int .i64 b.d0, .int .i64 b.d1, .int .i64 b.d2, .int .i64 b.d3, .int .i64 b.d4, .int .i64 b.d5, .int .i64 b.d6, .int .i64 b.d7, .int .i64 b.d8, .int .i64 b.d9, .int .i64 b.d10, .int .i64 b.d11] rfl rfl) rfl ?_
 rintro _ _ ⟨g2, rfl, rfl⟩
 refine O.l (Lo.alloc [.int .i64 0, .int .i64 0, .int .i64 0, .int .i64 0, .int .i64 0, .int .i64 0, .int .i64 0, .int .i64 0, .int .i64 0, .int .i64 0, .int .i64 0, .int .i64 0] (by exact Tryz.zeroValue23) rfl) rfl ?_
 rintro _ _ ⟨g3, rfl, rfl⟩
 refine O.nil ?_
 refine J.seq ?_
 refine J.drawMix [(0, false), (2, false), (1, true), (3, true), (4, false), (5, false)] [1, 2] [var g2 [.int .i64 b.d0, .int .i64 b.d1, .int .i64 b.d2, .int .i64 b.d3, .int .i64 b.d4, .int .i64 b.d5, .int .i64 b.d6, .int .i64 b.d7, .int .i64 b.d8, .int .i64 b.d9, .int .i64 b.d10, .int .i64 b.d11] 23, var g1 [.int .i64 a.d0, .int .i64 a.d1, .int .i64 a.d2, .int .i64 a.d3, .int .i64 a.d4, .int .i64 a.d5, .int .i64 a.d6, .int .i64 a.d7, .int .i64 a.d8, .int .i64 a.d9, .int .i64 a.d10, .int .i64 a.d11] 23] Tryz.mixed (by kernel_rfl) (by decide) rfl ?_
 refine Mx.q rfl (Qt.ld rfl (Cel.var 1 rfl) (o := 0) (off := 0) rfl (Cut.agg [.int .i64 a.d0, .int .i64 a.d1, .int .i64 a.d2, .int .i64 a.d3, .int .i64 a.d4, .int .i64 a.d5, .int .i64 a.d6, .int .i64 a.d7, .int .i64 a.d8, .int .i64 a.d9, .int .i64 a.d10, .int .i64 a.d11] Tryz.isAgg23 Tryz.sizeOf23 rfl rfl)) rfl ?_
 refine Mx.q rfl (Qt.ld rfl (Cel.var 0 rfl) (o := 0) (off := 0) rfl (Cut.agg [.int .i64 b.d0, .int .i64 b.d1, .int .i64 b.d2, .int .i64 b.d3, .int .i64 b.d4, .int .i64 b.d5, .int .i64 b.d6, .int .i64 b.d7, .int .i64 b.d8, .int .i64 b.d9, .int .i64 b.d10, .int .i64 b.d11] Tryz.isAgg23 Tryz.sizeOf23 rfl rfl)) rfl ?_
 refine Mx.l rfl (Lo.call [.agg #[.int .i64 a.d0, .int .i64 a.d1, .int .i64 a.d2, .int .i64 a.d3, .int .i64 a.d4, .int .i64 a.d5, .int .i64 a.d6, .int .i64 a.d7, .int .i64 a.d8, .int .i64 a.d9, .int .i64 a.d10, .int .i64 a.d11]] (by exact Tryz.call28) rfl (r45_numbers a) [] [0, 1, 2] (by decide) rfl [var g3 [.int .i64 0, .int .i64 0, .int .i64 0, .int .i64 0, .int .i64 0, .int .i64 0, .int .i64 0, .int .i64 0, .int .i64 0, .int .i64 0, .int .i64 0, .int .i64 0] 23, var g2 [.int .i64 b.d0, .int .i64 b.d1, .int .i64 b.d2, .int .i64 b.d3, .int .i64 b.d4, .int .i64 b.d5, .int .i64 b.d6, .int .i64 b.d7, .int .i64 b.d8, .int .i64 b.d9, .int .i64 b.d10, .int .i64 b.d11] 23, var g1 [.int .i64 a.d0, .int .i64 a.d1, .int .i64 a.d2, .int .i64 a.d3, .int .i64 a.d4, .int .i64 a.d5, .int .i64 a.d6, .int .i64 a.d7, .int .i64 a.d8, .int .i64 a.d9, .int .i64 a.d10, .int .i64 a.d11] 23] rfl RoOk.nil) rfl ?_
 rintro v4 _ ⟨_, rfl, rfl⟩
 refine MxK.go [2, 3] [0, 1] [var g2 [.int .i64 b.d0, .int .i64 b.d1, .int .i64 b.d2, .int .i64 b.d3, .int .i64 b.d4, .int .i64 b.d5, .int .i64 b.d6, .int .i64 b.d7, .int .i64 b.d8, .int .i64 b.d9, .int .i64 b.d10, .int .i64 b.d11] 23, var g1 [.int .i64 a.d0, .int .i64 a.d1, .int .i64 a.d2, .int .i64 a.d3, .int .i64 a.d4, .int .i64 a.d5, .int .i64 a.d6, .int .i64 a.d7, .int .i64 a.d8, .int .i64 a.d9, .int .i64 a.d10, .int .i64 a.d11] 23] (by decide) rfl (by decide) rfl ?_
 refine Mx.l rfl (Lo.call [.agg #[.int .i64 b.d0, .int .i64 b.d1, .int .i64 b.d2, .int .i64 b.d3, .int .i64 b.d4, .int .i64 b.d5, .int .i64 b.d6, .int .i64 b.d7, .int .i64 b.d8, .int .i64 b.d9, .int .i64 b.d10, .int .i64 b.d11]] (by exact Tryz.call28) rfl (r45_numbers b) [] [0, 1, 2, 3] (by decide) rfl [row v4 3 1 (([a.d0, a.d1, a.d2, a.d3, a.d4, a.d5, a.d6, a.d7, a.d8, a.d9, a.d10, a.d11]).map encZ), var g3 [.int .i64 0, .int .i64 0, .int .i64 0, .int .i64 0, .int .i64 0, .int .i64 0, .int .i64 0, .int .i64 0, .int .i64 0, .int .i64 0, .int .i64 0, .int .i64 0] 23, var g2 [.int .i64 b.d0, .int .i64 b.d1, .int .i64 b.d2, .int .i64 b.d3, .int .i64 b.d4, .int .i64 b.d5, .int .i64 b.d6, .int .i64 b.d7, .int .i64 b.d8, .int .i64 b.d9, .int .i64 b.d10, .int .i64 b.d11] 23, var g1 [.int .i64 a.d0, .int .i64 a.d1, .int .i64 a.d2, .int .i64 a.d3, .int .i64 a.d4, .int .i64 a.d5, .int .i64 a.d6, .int .i64 a.d7, .int .i64 a.d8, .int .i64 a.d9, .int .i64 a.d10, .int .i64 a.d11] 23] rfl RoOk.nil) rfl ?_
 rintro v5 _ ⟨_, rfl, rfl⟩
 refine MxK.all [3, 4] [var g2 [.int .i64 b.d0, .int .i64 b.d1, .int .i64 b.d2, .int .i64 b.d3, .int .i64 b.d4, .int .i64 b.d5, .int .i64 b.d6, .int .i64 b.d7, .int .i64 b.d8, .int .i64 b.d9, .int .i64 b.d10, .int .i64 b.d11] 23, var g1 [.int .i64 a.d0, .int .i64 a.d1, .int .i64 a.d2, .int .i64 a.d3, .int .i64 a.d4, .int .i64 a.d5, .int .i64 a.d6, .int .i64 a.d7, .int .i64 a.d8, .int .i64 a.d9, .int .i64 a.d10, .int .i64 a.d11] 23] (by decide) rfl (by kernel_rfl) ?_
 refine Mx.p rfl (Pu.assign rfl) rfl ?_
 refine Mx.p rfl (Pu.assign rfl) rfl ?_
 refine Mx.nil ?_
 refine J.seq ?_
 refine J.region ?_
 refine O.p (Pu.assign rfl) rfl ?_
 refine O.nil ?_
 refine J.seq ?_
 refine J.seq ?_
 refine J.region ?_
 refine O.p (Pu.assign rfl) rfl ?_
 refine O.nil ?_
 refine J.block ?_
 refine J.nilRow 3 1 ?_
 refine J.loop (X := Nat × Value) (fun ξ => ξ.1 ≤ 12) (fun ξ => [(2, .pointer (some ⟨g1, 0, none⟩)), (3, .pointer (some ⟨g2, 0, none⟩)), (4, .pointer (some ⟨g3, 0, none⟩)), (5, v4), (6, v5), (7, ξ.2), (8, .int .i64 (ξ.1 : Int))]) (fun ξ => [var g1 [.int .i64 a.d0, .int .i64 a.d1, .int .i64 a.d2, .int .i64 a.d3, .int .i64 a.d4, .int .i64 a.d5, .int .i64 a.d6, .int .i64 a.d7, .int .i64 a.d8, .int .i64 a.d9, .int .i64 a.d10, .int .i64 a.d11] 23, var g2 [.int .i64 b.d0, .int .i64 b.d1, .int .i64 b.d2, .int .i64 b.d3, .int .i64 b.d4, .int .i64 b.d5, .int .i64 b.d6, .int .i64 b.d7, .int .i64 b.d8, .int .i64 b.d9, .int .i64 b.d10, .int .i64 b.d11] 23, var g3 [.int .i64 0, .int .i64 0, .int .i64 0, .int .i64 0, .int .i64 0, .int .i64 0, .int .i64 0, .int .i64 0, .int .i64 0, .int .i64 0, .int .i64 0, .int .i64 0] 23, row v4 3 1 (([a.d0, a.d1, a.d2, a.d3, a.d4, a.d5, a.d6, a.d7, a.d8, a.d9, a.d10, a.d11]).map encZ), row v5 3 1 (([b.d0, b.d1, b.d2, b.d3, b.d4, b.d5, b.d6, b.d7, b.d8, b.d9, b.d10, b.d11]).map encZ), row ξ.2 3 1 (([Rp.addC a.d0 b.d0, Rp.addC a.d1 b.d1, Rp.addC a.d2 b.d2, Rp.addC a.d3 b.d3, Rp.addC a.d4 b.d4, Rp.addC a.d5 b.d5, Rp.addC a.d6 b.d6, Rp.addC a.d7 b.d7, Rp.addC a.d8 b.d8, Rp.addC a.d9 b.d9, Rp.addC a.d10 b.d10, Rp.addC a.d11 b.d11].take ξ.1).map encZ)]) (fun ξ => 12 - ξ.1) ⟨0, Value.slice none 0 0⟩ (show 0 ≤ 12 from (by omega)) ⟨rfl, rfl, rfl, rfl, rfl, rfl, (congrArg (fun z => some (Value.int .i64 z)) (by first | rfl | omega : (0 : Int) = (0 : Int))), trivial⟩ [5, 4, 3, 2, 1, 0] (by decide) rfl ?_
 rintro ⟨k, V⟩ hq6
 obtain hk : k ≤ 12 := hq6
 show J _ _ [(2, .pointer (some ⟨g1, 0, none⟩)), (3, .pointer (some ⟨g2, 0, none⟩)), (4, .pointer (some ⟨g3, 0, none⟩)), (5, v4), (6, v5), (7, V), (8, .int .i64 (k : Int))] [var g1 [.int .i64 a.d0, .int .i64 a.d1, .int .i64 a.d2, .int .i64 a.d3, .int .i64 a.d4, .int .i64 a.d5, .int .i64 a.d6, .int .i64 a.d7, .int .i64 a.d8, .int .i64 a.d9, .int .i64 a.d10, .int .i64 a.d11] 23, var g2 [.int .i64 b.d0, .int .i64 b.d1, .int .i64 b.d2, .int .i64 b.d3, .int .i64 b.d4, .int .i64 b.d5, .int .i64 b.d6, .int .i64 b.d7, .int .i64 b.d8, .int .i64 b.d9, .int .i64 b.d10, .int .i64 b.d11] 23, var g3 [.int .i64 0, .int .i64 0, .int .i64 0, .int .i64 0, .int .i64 0, .int .i64 0, .int .i64 0, .int .i64 0, .int .i64 0, .int .i64 0, .int .i64 0, .int .i64 0] 23, row v4 3 1 (([a.d0, a.d1, a.d2, a.d3, a.d4, a.d5, a.d6, a.d7, a.d8, a.d9, a.d10, a.d11]).map encZ), row v5 3 1 (([b.d0, b.d1, b.d2, b.d3, b.d4, b.d5, b.d6, b.d7, b.d8, b.d9, b.d10, b.d11]).map encZ), row V 3 1 (([Rp.addC a.d0 b.d0, Rp.addC a.d1 b.d1, Rp.addC a.d2 b.d2, Rp.addC a.d3 b.d3, Rp.addC a.d4 b.d4, Rp.addC a.d5 b.d5, Rp.addC a.d6 b.d6, Rp.addC a.d7 b.d7, Rp.addC a.d8 b.d8, Rp.addC a.d9 b.d9, Rp.addC a.d10 b.d10, Rp.addC a.d11 b.d11].take k).map encZ)]
 obtain rfl | rfl | rfl | rfl | rfl | rfl | rfl | rfl | rfl | rfl | rfl | rfl | rfl : k = 0 ∨ k = 1 ∨ k = 2 ∨ k = 3 ∨ k = 4 ∨ k = 5 ∨ k = 6 ∨ k = 7 ∨ k = 8 ∨ k = 9 ∨ k = 10 ∨ k = 11 ∨ k = 12 := by omega
 ·
  show J _ _ [(2, .pointer (some ⟨g1, 0, none⟩)), (3, .pointer (some ⟨g2, 0, none⟩)), (4, .pointer (some ⟨g3, 0, none⟩)), (5, v4), (6, v5), (7, V), (8, .int .i64 0)] [var g1 [.int .i64 a.d0, .int .i64 a.d1, .int .i64 a.d2, .int .i64 a.d3, .int .i64 a.d4, .int .i64 a.d5, .int .i64 a.d6, .int .i64 a.d7, .int .i64 a.d8, .int .i64 a.d9, .int .i64 a.d10, .int .i64 a.d11] 23, var g2 [.int .i64 b.d0, .int .i64 b.d1, .int .i64 b.d2, .int .i64 b.d3, .int .i64 b.d4, .int .i64 b.d5, .int .i64 b.d6, .int .i64 b.d7, .int .i64 b.d8, .int .i64 b.d9, .int .i64 b.d10, .int .i64 b.d11] 23, var g3 [.int .i64 0, .int .i64 0, .int .i64 0, .int .i64 0, .int .i64 0, .int .i64 0, .int .i64 0, .int .i64 0, .int .i64 0, .int .i64 0, .int .i64 0, .int .i64 0] 23, row v4 3 1 (([a.d0, a.d1, a.d2, a.d3, a.d4, a.d5, a.d6, a.d7, a.d8, a.d9, a.d10, a.d11]).map encZ), row v5 3 1 (([b.d0, b.d1, b.d2, b.d3, b.d4, b.d5, b.d6, b.d7, b.d8, b.d9, b.d10, b.d11]).map encZ), row V 3 1 (([Rp.addC a.d0 b.d0, Rp.addC a.d1 b.d1, Rp.addC a.d2 b.d2, Rp.addC a.d3 b.d3, Rp.addC a.d4 b.d4, Rp.addC a.d5 b.d5, Rp.addC a.d6 b.d6, Rp.addC a.d7 b.d7, Rp.addC a.d8 b.d8, Rp.addC a.d9 b.d9, Rp.addC a.d10 b.d10, Rp.addC a.d11 b.d11].take 0).map encZ)]
  refine J.seq ?_
  refine J.seq ?_
  refine J.region ?_
  refine O.p (Pu.move rfl) rfl ?_
  refine O.p (Pu.move rfl) rfl ?_
  refine O.q (Qt.lenM Tryz.runUnderlying34 rfl (Src.row 3 rfl)) rfl ?_
  refine O.p (Pu.lss rfl rfl) rfl ?_
  refine O.nil ?_
  refine J.condT rfl rfl ?_
  refine J.skip ?_
  refine J.seq ?_
  refine J.block ?_
  refine J.drawMix [(0, false), (1, false), (2, false), (3, false), (4, false), (5, false), (6, false), (7, false), (8, false), (9, false), (10, true), (11, true), (12, false)] [3, 4] [row v4 3 1 (([a.d0, a.d1, a.d2, a.d3, a.d4, a.d5, a.d6, a.d7, a.d8, a.d9, a.d10, a.d11]).map encZ), row v5 3 1 (([b.d0, b.d1, b.d2, b.d3, b.d4, b.d5, b.d6, b.d7, b.d8, b.d9, b.d10, b.d11]).map encZ)] Tryz.mixed (by kernel_rfl) (by decide) rfl ?_
  refine Mx.p rfl (Pu.move rfl) rfl ?_
  refine Mx.p rfl (Pu.move rfl) rfl ?_
  refine Mx.p rfl (Pu.move rfl) rfl ?_
  have he7 : ([a.d0, a.d1, a.d2, a.d3, a.d4, a.d5, a.d6, a.d7, a.d8, a.d9, a.d10, a.d11])[0]? = some a.d0 := rfl
  refine Mx.q rfl (Qt.idxM Tryz.runUnderlying34 Tryz.sizeOf3 rfl (Src.row 0 rfl) rfl (by first | omega | decide | (simp; done) | (simp only [List.length_append, List.length_cons, List.length_nil, List.length_take]; omega)) (by first | omega | decide | (simp; done) | (simp only [List.length_append, List.length_cons, List.length_nil, List.length_take]; omega))) rfl ?_
  refine Mx.q rfl (Qt.ld rfl (Cel.eltM (Src.row 0 rfl) he7) (o := (voff v4 + 0 * 1)) (off := 0) (by omega) (Cut.one Tryz.isAgg3 rfl)) rfl ?_
  refine Mx.p rfl (Pu.move rfl) rfl ?_
  refine Mx.p rfl (Pu.move rfl) rfl ?_
  have he8 : ([b.d0, b.d1, b.d2, b.d3, b.d4, b.d5, b.d6, b.d7, b.d8, b.d9, b.d10, b.d11])[0]? = some b.d0 := rfl
  refine Mx.q rfl (Qt.idxM Tryz.runUnderlying34 Tryz.sizeOf3 rfl (Src.row 1 rfl) rfl (by first | omega | decide | (simp; done) | (simp only [List.length_append, List.length_cons, List.length_nil, List.length_take]; omega)) (by first | omega | decide | (simp; done) | (simp only [List.length_append, List.length_cons, List.length_nil, List.length_take]; omega))) rfl ?_
  refine Mx.q rfl (Qt.ld rfl (Cel.eltM (Src.row 1 rfl) he8) (o := (voff v5 + 0 * 1)) (off := 0) (by omega) (Cut.one Tryz.isAgg3 rfl)) rfl ?_
  refine Mx.call (vs := [.int .i64 a.d0, .int .i64 b.d0]) (caps := []) rfl (by exact Tryz.call32) rfl rfl (r01_Add a.d0 b.d0) (fun _ _ h => h) RoOk.nil rfl ?_
  refine Mx.l rfl (Lo.buildM (s := 1) encZ [Rp.addC a.d0 b.d0] [(0, .int .i64 (Rp.addC a.d0 b.d0))] (by exact Tryz.runUnderlying34) (by exact Tryz.sizeOf3) (by exact Tryz.zeroValue3) rfl rfl rfl (by kernel_rfl) rfl rfl) rfl ?_
  rintro V9 _ rfl
  refine MxK.go [4, 5] [0, 1] [row v4 3 1 (([a.d0, a.d1, a.d2, a.d3, a.d4, a.d5, a.d6, a.d7, a.d8, a.d9, a.d10, a.d11]).map encZ), row v5 3 1 (([b.d0, b.d1, b.d2, b.d3, b.d4, b.d5, b.d6, b.d7, b.d8, b.d9, b.d10, b.d11]).map encZ)] (by decide) rfl (by decide) rfl ?_
  refine Mx.l rfl (Lo.appendM (s := 1) 6 (by exact Tryz.underlying34) (by exact (info3).1) (by exact (info3).2.1) (by exact (info3).2.2.1) (by exact (info3).2.2.2) rfl rfl rfl rfl rfl (Src.row 0 rfl) encZ.one (by first | omega | decide | (simp; done) | (simp only [List.length_append, List.length_cons, List.length_nil, List.length_take]; omega)) (by first | omega | decide | (simp; done) | (simp only [List.length_append, List.length_cons, List.length_nil, List.length_take]; omega))) rfl ?_
  rintro V10 _ rfl
  refine MxK.go [4, 5] [0, 1] [row v4 3 1 (([a.d0, a.d1, a.d2, a.d3, a.d4, a.d5, a.d6, a.d7, a.d8, a.d9, a.d10, a.d11]).map encZ), row v5 3 1 (([b.d0, b.d1, b.d2, b.d3, b.d4, b.d5, b.d6, b.d7, b.d8, b.d9, b.d10, b.d11]).map encZ)] (by decide) rfl (by decide) rfl ?_
  refine Mx.p rfl (Pu.assign rfl) rfl ?_
  refine Mx.nil ?_
  refine J.blk ?_
  refine J.region ?_
  refine O.p (Pu.move rfl) rfl ?_
  refine O.p (Pu.add' rfl rfl (by first | omega | (simp only [List.length_append, List.length_cons, List.length_nil, List.length_set]; omega))) rfl ?_
  refine O.p (Pu.assign rfl) rfl ?_
  refine O.nil ?_
  exact J.lp ⟨1, V10⟩ (show 1 ≤ 12 from (by omega)) (show 12 - 1 < 12 - 0 from (by first | omega | decide | (simp; done) | (simp only [List.length_append, List.length_cons, List.length_nil, List.length_take]; omega))) ⟨rfl, rfl, rfl, rfl, rfl, rfl, (congrArg (fun z => some (Value.int .i64 z)) (by first | rfl | omega : (0 + 1 : Int) = (1 : Int))), trivial⟩ [1, 2, 3, 4, 5, 6] (by decide) rfl
 ·
  show J _ _ [(2, .pointer (some ⟨g1, 0, none⟩)), (3, .pointer (some ⟨g2, 0, none⟩)), (4, .pointer (some ⟨g3, 0, none⟩)), (5, v4), (6, v5), (7, V), (8, .int .i64 1)] [var g1 [.int .i64 a.d0, .int .i64 a.d1, .int .i64 a.d2, .int .i64 a.d3, .int .i64 a.d4, .int .i64 a.d5, .int .i64 a.d6, .int .i64 a.d7, .int .i64 a.d8, .int .i64 a.d9, .int .i64 a.d10, .int .i64 a.d11] 23, var g2 [.int .i64 b.d0, .int .i64 b.d1, .int .i64 b.d2, .int .i64 b.d3, .int .i64 b.d4, .int .i64 b.d5, .int .i64 b.d6, .int .i64 b.d7, .int .i64 b.d8, .int .i64 b.d9, .int .i64 b.d10, .int .i64 b.d11] 23, var g3 [.int .i64 0, .int .i64 0, .int .i64 0, .int .i64 0, .int .i64 0, .int .i64 0, .int .i64 0, .int .i64 0, .int .i64 0, .int .i64 0, .int .i64 0, .int .i64 0] 23, row v4 3 1 (([a.d0, a.d1, a.d2, a.d3, a.d4, a.d5, a.d6, a.d7, a.d8, a.d9, a.d10, a.d11]).map encZ), row v5 3 1 (([b.d0, b.d1, b.d2, b.d3, b.d4, b.d5, b.d6, b.d7, b.d8, b.d9, b.d10, b.d11]).map encZ), row V 3 1 (([Rp.addC a.d0 b.d0, Rp.addC a.d1 b.d1, Rp.addC a.d2 b.d2, Rp.addC a.d3 b.d3, Rp.addC a.d4 b.d4, Rp.addC a.d5 b.d5, Rp.addC a.d6 b.d6, Rp.addC a.d7 b.d7, Rp.addC a.d8 b.d8, Rp.addC a.d9 b.d9, Rp.addC a.d10 b.d10, Rp.addC a.d11 b.d11].take 1).map encZ)]
  refine J.seq ?_
  refine J.seq ?_
  refine J.region ?_
  refine O.p (Pu.move rfl) rfl ?_
  refine O.p (Pu.move rfl) rfl ?_
  refine O.q (Qt.lenM Tryz.runUnderlying34 rfl (Src.row 3 rfl)) rfl ?_
  refine O.p (Pu.lss rfl rfl) rfl ?_
  refine O.nil ?_
  refine J.condT rfl rfl ?_
  refine J.skip ?_
  refine J.seq ?_
  refine J.block ?_
  refine J.drawMix [(0, false), (1, false), (2, false), (3, false), (4, false), (5, false), (6, false), (7, false), (8, false), (9, false), (10, true), (11, true), (12, false)] [3, 4] [row v4 3 1 (([a.d0, a.d1, a.d2, a.d3, a.d4, a.d5, a.d6, a.d7, a.d8, a.d9, a.d10, a.d11]).map encZ), row v5 3 1 (([b.d0, b.d1, b.d2, b.d3, b.d4, b.d5, b.d6, b.d7, b.d8, b.d9, b.d10, b.d11]).map encZ)] Tryz.mixed (by kernel_rfl) (by decide) rfl ?_
  refine Mx.p rfl (Pu.move rfl) rfl ?_
  refine Mx.p rfl (Pu.move rfl) rfl ?_
  refine Mx.p rfl (Pu.move rfl) rfl ?_
  have he11 : ([a.d0, a.d1, a.d2, a.d3, a.d4, a.d5, a.d6, a.d7, a.d8, a.d9, a.d10, a.d11])[1]? = some a.d1 := rfl
  refine Mx.q rfl (Qt.idxM Tryz.runUnderlying34 Tryz.sizeOf3 rfl (Src.row 0 rfl) rfl (by first | omega | decide | (simp; done) | (simp only [List.length_append, List.length_cons, List.length_nil, List.length_take]; omega)) (by first | omega | decide | (simp; done) | (simp only [List.length_append, List.length_cons, List.length_nil, List.length_take]; omega))) rfl ?_
  refine Mx.q rfl (Qt.ld rfl (Cel.eltM (Src.row 0 rfl) he11) (o := (voff v4 + 1 * 1)) (off := 0) (by omega) (Cut.one Tryz.isAgg3 rfl)) rfl ?_
  refine Mx.p rfl (Pu.move rfl) rfl ?_
  refine Mx.p rfl (Pu.move rfl) rfl ?_
  have he12 : ([b.d0, b.d1, b.d2, b.d3, b.d4, b.d5, b.d6, b.d7, b.d8, b.d9, b.d10, b.d11])[1]? = some b.d1 := rfl
  refine Mx.q rfl (Qt.idxM Tryz.runUnderlying34 Tryz.sizeOf3 rfl (Src.row 1 rfl) rfl (by first | omega | decide | (simp; done) | (simp only [List.length_append, List.length_cons, List.length_nil, List.length_take]; omega)) (by first | omega | decide | (simp; done) | (simp only [List.length_append, List.length_cons, List.length_nil, List.length_take]; omega))) rfl ?_
  refine Mx.q rfl (Qt.ld rfl (Cel.eltM (Src.row 1 rfl) he12) (o := (voff v5 + 1 * 1)) (off := 0) (by omega) (Cut.one Tryz.isAgg3 rfl)) rfl ?_
  refine Mx.call (vs := [.int .i64 a.d1, .int .i64 b.d1]) (caps := []) rfl (by exact Tryz.call32) rfl rfl (r01_Add a.d1 b.d1) (fun _ _ h => h) RoOk.nil rfl ?_
  refine Mx.l rfl (Lo.buildM (s := 1) encZ [Rp.addC a.d1 b.d1] [(0, .int .i64 (Rp.addC a.d1 b.d1))] (by exact Tryz.runUnderlying34) (by exact Tryz.sizeOf3) (by exact Tryz.zeroValue3) rfl rfl rfl (by kernel_rfl) rfl rfl) rfl ?_
  rintro V13 _ rfl
  refine MxK.go [4, 5] [0, 1] [row v4 3 1 (([a.d0, a.d1, a.d2, a.d3, a.d4, a.d5, a.d6, a.d7, a.d8, a.d9, a.d10, a.d11]).map encZ), row v5 3 1 (([b.d0, b.d1, b.d2, b.d3, b.d4, b.d5, b.d6, b.d7, b.d8, b.d9, b.d10, b.d11]).map encZ)] (by decide) rfl (by decide) rfl ?_
  refine Mx.l rfl (Lo.appendM (s := 1) 6 (by exact Tryz.underlying34) (by exact (info3).1) (by exact (info3).2.1) (by exact (info3).2.2.1) (by exact (info3).2.2.2) rfl rfl rfl rfl rfl (Src.row 0 rfl) encZ.one (by first | omega | decide | (simp; done) | (simp only [List.length_append, List.length_cons, List.length_nil, List.length_take]; omega)) (by first | omega | decide | (simp; done) | (simp only [List.length_append, List.length_cons, List.length_nil, List.length_take]; omega))) rfl ?_
  rintro V14 _ rfl
  refine MxK.go [4, 5] [0, 1] [row v4 3 1 (([a.d0, a.d1, a.d2, a.d3, a.d4, a.d5, a.d6, a.d7, a.d8, a.d9, a.d10, a.d11]).map encZ), row v5 3 1 (([b.d0, b.d1, b.d2, b.d3, b.d4, b.d5, b.d6, b.d7, b.d8, b.d9, b.d10, b.d11]).map encZ)] (by decide) rfl (by decide) rfl ?_
  refine Mx.p rfl (Pu.assign rfl) rfl ?_
  refine Mx.nil ?_
  refine J.blk ?_
  refine J.region ?_
  refine O.p (Pu.move rfl) rfl ?_
  refine O.p (Pu.add' rfl rfl (by first | omega | (simp only [List.length_append, List.length_cons, List.length_nil, List.length_set]; omega))) rfl ?_
  refine O.p (Pu.assign rfl) rfl ?_
  refine O.nil ?_
  exact J.lp ⟨2, V14⟩ (show 2 ≤ 12 from (by omega)) (show 12 - 2 < 12 - 1 from (by first | omega | decide | (simp; done) | (simp only [List.length_append, List.length_cons, List.length_nil, List.length_take]; omega))) ⟨rfl, rfl, rfl, rfl, rfl, rfl, (congrArg (fun z => some (Value.int .i64 z)) (by first | rfl | omega : (1 + 1 : Int) = (2 : Int))), trivial⟩ [1, 2, 3, 4, 5, 6] (by decide) rfl
 ·
  show J _ _ [(2, .pointer (some ⟨g1, 0, none⟩)), (3, .pointer (some ⟨g2, 0, none⟩)), (4, .pointer (some ⟨g3, 0, none⟩)), (5, v4), (6, v5), (7, V), (8, .int .i64 2)] [var g1 [.int .i64 a.d0, .int .i64 a.d1, .int .i64 a.d2, .int .i64 a.d3, .int .i64 a.d4, .int .i64 a.d5, .int .i64 a.d6, .int .i64 a.d7, .int .i64 a.d8, .int .i64 a.d9, .int .i64 a.d10, .int .i64 a.d11] 23, var g2 [.int .i64 b.d0, .int .i64 b.d1, .int .i64 b.d2, .int .i64 b.d3, .int .i64 b.d4, .int .i64 b.d5, .int .i64 b.d6, .int .i64 b.d7, .int .i64 b.d8, .int .i64 b.d9, .int .i64 b.d10, .int .i64 b.d11] 23, var g3 [.int .i64 0, .int .i64 0, .int .i64 0, .int .i64 0, .int .i64 0, .int .i64 0, .int .i64 0, .int .i64 0, .int .i64 0, .int .i64 0, .int .i64 0, .int .i64 0] 23, row v4 3 1 (([a.d0, a.d1, a.d2, a.d3, a.d4, a.d5, a.d6, a.d7, a.d8, a.d9, a.d10, a.d11]).map encZ), row v5 3 1 (([b.d0, b.d1, b.d2, b.d3, b.d4, b.d5, b.d6, b.d7, b.d8, b.d9, b.d10, b.d11]).map encZ), row V 3 1 (([Rp.addC a.d0 b.d0, Rp.addC a.d1 b.d1, Rp.addC a.d2 b.d2, Rp.addC a.d3 b.d3, Rp.addC a.d4 b.d4, Rp.addC a.d5 b.d5, Rp.addC a.d6 b.d6, Rp.addC a.d7 b.d7, Rp.addC a.d8 b.d8, Rp.addC a.d9 b.d9, Rp.addC a.d10 b.d10, Rp.addC a.d11 b.d11].take 2).map encZ)]
  refine J.seq ?_
  refine J.seq ?_
  refine J.region ?_
  refine O.p (Pu.move rfl) rfl ?_
  refine O.p (Pu.move rfl) rfl ?_
  refine O.q (Qt.lenM Tryz.runUnderlying34 rfl (Src.row 3 rfl)) rfl ?_
  refine O.p (Pu.lss rfl rfl) rfl ?_
  refine O.nil ?_
  refine J.condT rfl rfl ?_
  refine J.skip ?_
  refine J.seq ?_
  refine J.block ?_
  refine J.drawMix [(0, false), (1, false), (2, false), (3, false), (4, false), (5, false), (6, false), (7, false), (8, false), (9, false), (10, true), (11, true), (12, false)] [3, 4] [row v4 3 1 (([a.d0, a.d1, a.d2, a.d3, a.d4, a.d5, a.d6, a.d7, a.d8, a.d9, a.d10, a.d11]).map encZ), row v5 3 1 (([b.d0, b.d1, b.d2, b.d3, b.d4, b.d5, b.d6, b.d7, b.d8, b.d9, b.d10, b.d11]).map encZ)] Tryz.mixed (by kernel_rfl) (by decide) rfl ?_
  refine Mx.p rfl (Pu.move rfl) rfl ?_
  refine Mx.p rfl (Pu.move rfl) rfl ?_
  refine Mx.p rfl (Pu.move rfl) rfl ?_
  have he15 : ([a.d0, a.d1, a.d2, a.d3, a.d4, a.d5, a.d6, a.d7, a.d8, a.d9, a.d10, a.d11])[2]? = some a.d2 := rfl
  refine Mx.q rfl (Qt.idxM Tryz.runUnderlying34 Tryz.sizeOf3 rfl (Src.row 0 rfl) rfl (by first | omega | decide | (simp; done) | (simp only [List.length_append, List.length_cons, List.length_nil, List.length_take]; omega)) (by first | omega | decide | (simp; done) | (simp only [List.length_append, List.length_cons, List.length_nil, List.length_take]; omega))) rfl ?_
  refine Mx.q rfl (Qt.ld rfl (Cel.eltM (Src.row 0 rfl) he15) (o := (voff v4 + 2 * 1)) (off := 0) (by omega) (Cut.one Tryz.isAgg3 rfl)) rfl ?_
  refine Mx.p rfl (Pu.move rfl) rfl ?_
  refine Mx.p rfl (Pu.move rfl) rfl ?_
  have he16 : ([b.d0, b.d1, b.d2, b.d3, b.d4, b.d5, b.d6, b.d7, b.d8, b.d9, b.d10, b.d11])[2]? = some b.d2 := rfl
  refine Mx.q rfl (Qt.idxM Tryz.runUnderlying34 Tryz.sizeOf3 rfl (Src.row 1 rfl) rfl (by first | omega | decide | (simp; done) | (simp only [List.length_append, List.length_cons, List.length_nil, List.length_take]; omega)) (by first | omega | decide | (simp; done) | (simp only [List.length_append, List.length_cons, List.length_nil, List.length_take]; omega))) rfl ?_
  refine Mx.q rfl (Qt.ld rfl (Cel.eltM (Src.row 1 rfl) he16) (o := (voff v5 + 2 * 1)) (off := 0) (by omega) (Cut.one Tryz.isAgg3 rfl)) rfl ?_
  refine Mx.call (vs := [.int .i64 a.d2, .int .i64 b.d2]) (caps := []) rfl (by exact Tryz.call32) rfl rfl (r01_Add a.d2 b.d2) (fun _ _ h => h) RoOk.nil rfl ?_
  refine Mx.l rfl (Lo.buildM (s := 1) encZ [Rp.addC a.d2 b.d2] [(0, .int .i64 (Rp.addC a.d2 b.d2))] (by exact Tryz.runUnderlying34) (by exact Tryz.sizeOf3) (by exact Tryz.zeroValue3) rfl rfl rfl (by kernel_rfl) rfl rfl) rfl ?_
  rintro V17 _ rfl
  refine MxK.go [4, 5] [0, 1] [row v4 3 1 (([a.d0, a.d1, a.d2, a.d3, a.d4, a.d5, a.d6, a.d7, a.d8, a.d9, a.d10, a.d11]).map encZ), row v5 3 1 (([b.d0, b.d1, b.d2, b.d3, b.d4, b.d5, b.d6, b.d7, b.d8, b.d9, b.d10, b.d11]).map encZ)] (by decide) rfl (by decide) rfl ?_
  refine Mx.l rfl (Lo.appendM (s := 1) 6 (by exact Tryz.underlying34) (by exact (info3).1) (by exact (info3).2.1) (by exact (info3).2.2.1) (by exact (info3).2.2.2) rfl rfl rfl rfl rfl (Src.row 0 rfl) encZ.one (by first | omega | decide | (simp; done) | (simp only [List.length_append, List.length_cons, List.length_nil, List.length_take]; omega)) (by first | omega | decide | (simp; done) | (simp only [List.length_append, List.length_cons, List.length_nil, List.length_take]; omega))) rfl ?_
  rintro V18 _ rfl
  refine MxK.go [4, 5] [0, 1] [row v4 3 1 (([a.d0, a.d1, a.d2, a.d3, a.d4, a.d5, a.d6, a.d7, a.d8, a.d9, a.d10, a.d11]).map encZ), row v5 3 1 (([b.d0, b.d1, b.d2, b.d3, b.d4, b.d5, b.d6, b.d7, b.d8, b.d9, b.d10, b.d11]).map encZ)] (by decide) rfl (by decide) rfl ?_
  refine Mx.p rfl (Pu.assign rfl) rfl ?_
  refine Mx.nil ?_
  refine J.blk ?_
  refine J.region ?_
  refine O.p (Pu.move rfl) rfl ?_
  refine O.p (Pu.add' rfl rfl (by first | omega | (simp only [List.length_append, List.length_cons, List.length_nil, List.length_set]; omega))) rfl ?_
  refine O.p (Pu.assign rfl) rfl ?_
  refine O.nil ?_
  exact J.lp ⟨3, V18⟩ (show 3 ≤ 12 from (by omega)) (show 12 - 3 < 12 - 2 from (by first | omega | decide | (simp; done) | (simp only [List.length_append, List.length_cons, List.length_nil, List.length_take]; omega))) ⟨rfl, rfl, rfl, rfl, rfl, rfl, (congrArg (fun z => some (Value.int .i64 z)) (by first | rfl | omega : (2 + 1 : Int) = (3 : Int))), trivial⟩ [1, 2, 3, 4, 5, 6] (by decide) rfl
 ·
  show J _ _ [(2, .pointer (some ⟨g1, 0, none⟩)), (3, .pointer (some ⟨g2, 0, none⟩)), (4, .pointer (some ⟨g3, 0, none⟩)), (5, v4), (6, v5), (7, V), (8, .int .i64 3)] [var g1 [.int .i64 a.d0, .int .i64 a.d1, .int .i64 a.d2, .int .i64 a.d3, .int .i64 a.d4, .int .i64 a.d5, .int .i64 a.d6, .int .i64 a.d7, .int .i64 a.d8, .int .i64 a.d9, .int .i64 a.d10, .int .i64 a.d11] 23, var g2 [.int .i64 b.d0, .int .i64 b.d1, .int .i64 b.d2, .int .i64 b.d3, .int .i64 b.d4, .int .i64 b.d5, .int .i64 b.d6, .int .i64 b.d7, .int .i64 b.d8, .int .i64 b.d9, .int .i64 b.d10, .int .i64 b.d11] 23, var g3 [.int .i64 0, .int .i64 0, .int .i64 0, .int .i64 0, .int .i64 0, .int .i64 0, .int .i64 0, .int .i64 0, .int .i64 0, .int .i64 0, .int .i64 0, .int .i64 0] 23, row v4 3 1 (([a.d0, a.d1, a.d2, a.d3, a.d4, a.d5, a.d6, a.d7, a.d8, a.d9, a.d10, a.d11]).map encZ), row v5 3 1 (([b.d0, b.d1, b.d2, b.d3, b.d4, b.d5, b.d6, b.d7, b.d8, b.d9, b.d10, b.d11]).map encZ), row V 3 1 (([Rp.addC a.d0 b.d0, Rp.addC a.d1 b.d1, Rp.addC a.d2 b.d2, Rp.addC a.d3 b.d3, Rp.addC a.d4 b.d4, Rp.addC a.d5 b.d5, Rp.addC a.d6 b.d6, Rp.addC a.d7 b.d7, Rp.addC a.d8 b.d8, Rp.addC a.d9 b.d9, Rp.addC a.d10 b.d10, Rp.addC a.d11 b.d11].take 3).map encZ)]
  refine J.seq ?_
  refine J.seq ?_
  refine J.region ?_
  refine O.p (Pu.move rfl) rfl ?_
  refine O.p (Pu.move rfl) rfl ?_
  refine O.q (Qt.lenM Tryz.runUnderlying34 rfl (Src.row 3 rfl)) rfl ?_
  refine O.p (Pu.lss rfl rfl) rfl ?_
  refine O.nil ?_
  refine J.condT rfl rfl ?_
  refine J.skip ?_
  refine J.seq ?_
  refine J.block ?_
  refine J.drawMix [(0, false), (1, false), (2, false), (3, false), (4, false), (5, false), (6, false), (7, false), (8, false), (9, false), (10, true), (11, true), (12, false)] [3, 4] [row v4 3 1 (([a.d0, a.d1, a.d2, a.d3, a.d4, a.d5, a.d6, a.d7, a.d8, a.d9, a.d10, a.d11]).map encZ), row v5 3 1 (([b.d0, b.d1, b.d2, b.d3, b.d4, b.d5, b.d6, b.d7, b.d8, b.d9, b.d10, b.d11]).map encZ)] Tryz.mixed (by kernel_rfl) (by decide) rfl ?_
  refine Mx.p rfl (Pu.move rfl) rfl ?_
  refine Mx.p rfl (Pu.move rfl) rfl ?_
  refine Mx.p rfl (Pu.move rfl) rfl ?_
  have he19 : ([a.d0, a.d1, a.d2, a.d3, a.d4, a.d5, a.d6, a.d7, a.d8, a.d9, a.d10, a.d11])[3]? = some a.d3 := rfl
  refine Mx.q rfl (Qt.idxM Tryz.runUnderlying34 Tryz.sizeOf3 rfl (Src.row 0 rfl) rfl (by first | omega | decide | (simp; done) | (simp only [List.length_append, List.length_cons, List.length_nil, List.length_take]; omega)) (by first | omega | decide | (simp; done) | (simp only [List.length_append, List.length_cons, List.length_nil, List.length_take]; omega))) rfl ?_
  refine Mx.q rfl (Qt.ld rfl (Cel.eltM (Src.row 0 rfl) he19) (o := (voff v4 + 3 * 1)) (off := 0) (by omega) (Cut.one Tryz.isAgg3 rfl)) rfl ?_
  refine Mx.p rfl (Pu.move rfl) rfl ?_
  refine Mx.p rfl (Pu.move rfl) rfl ?_
  have he20 : ([b.d0, b.d1, b.d2, b.d3, b.d4, b.d5, b.d6, b.d7, b.d8, b.d9, b.d10, b.d11])[3]? = some b.d3 := rfl
  refine Mx.q rfl (Qt.idxM Tryz.runUnderlying34 Tryz.sizeOf3 rfl (Src.row 1 rfl) rfl (by first | omega | decide | (simp; done) | (simp only [List.length_append, List.length_cons, List.length_nil, List.length_take]; omega)) (by first | omega | decide | (simp; done) | (simp only [List.length_append, List.length_cons, List.length_nil, List.length_take]; omega))) rfl ?_
  refine Mx.q rfl (Qt.ld rfl (Cel.eltM (Src.row 1 rfl) he20) (o := (voff v5 + 3 * 1)) (off := 0) (by omega) (Cut.one Tryz.isAgg3 rfl)) rfl ?_
  refine Mx.call (vs := [.int .i64 a.d3, .int .i64 b.d3]) (caps := []) rfl (by exact Tryz.call32) rfl rfl (r01_Add a.d3 b.d3) (fun _ _ h => h) RoOk.nil rfl ?_
  refine Mx.l rfl (Lo.buildM (s := 1) encZ [Rp.addC a.d3 b.d3] [(0, .int .i64 (Rp.addC a.d3 b.d3))] (by exact Tryz.runUnderlying34) (by exact Tryz.sizeOf3) (by exact Tryz.zeroValue3) rfl rfl rfl (by kernel_rfl) rfl rfl) rfl ?_
  rintro V21 _ rfl
  refine MxK.go [4, 5] [0, 1] [row v4 3 1 (([a.d0, a.d1, a.d2, a.d3, a.d4, a.d5, a.d6, a.d7, a.d8, a.d9, a.d10, a.d11]).map encZ), row v5 3 1 (([b.d0, b.d1, b.d2, b.d3, b.d4, b.d5, b.d6, b.d7, b.d8, b.d9, b.d10, b.d11]).map encZ)] (by decide) rfl (by decide) rfl ?_
  refine Mx.l rfl (Lo.appendM (s := 1) 6 (by exact Tryz.underlying34) (by exact (info3).1) (by exact (info3).2.1) (by exact (info3).2.2.1) (by exact (info3).2.2.2) rfl rfl rfl rfl rfl (Src.row 0 rfl) encZ.one (by first | omega | decide | (simp; done) | (simp only [List.length_append, List.length_cons, List.length_nil, List.length_take]; omega)) (by first | omega | decide | (simp; done) | (simp only [List.length_append, List.length_cons, List.length_nil, List.length_take]; omega))) rfl ?_
  rintro V22 _ rfl
  refine MxK.go [4, 5] [0, 1] [row v4 3 1 (([a.d0, a.d1, a.d2, a.d3, a.d4, a.d5, a.d6, a.d7, a.d8, a.d9, a.d10, a.d11]).map encZ), row v5 3 1 (([b.d0, b.d1, b.d2, b.d3, b.d4, b.d5, b.d6, b.d7, b.d8, b.d9, b.d10, b.d11]).map encZ)] (by decide) rfl (by decide) rfl ?_
  refine Mx.p rfl (Pu.assign rfl) rfl ?_
  refine Mx.nil ?_
  refine J.blk ?_
  refine J.region ?_
  refine O.p (Pu.move rfl) rfl ?_
  refine O.p (Pu.add' rfl rfl (by first | omega | (simp only [List.length_append, List.length_cons, List.length_nil, List.length_set]; omega))) rfl ?_
  refine O.p (Pu.assign rfl) rfl ?_
  refine O.nil ?_
  exact J.lp ⟨4, V22⟩ (show 4 ≤ 12 from (by omega)) (show 12 - 4 < 12 - 3 from (by first | omega | decide | (simp; done) | (simp only [List.length_append, List.length_cons, List.length_nil, List.length_take]; omega))) ⟨rfl, rfl, rfl, rfl, rfl, rfl, (congrArg (fun z => some (Value.int .i64 z)) (by first | rfl | omega : (3 + 1 : Int) = (4 : Int))), trivial⟩ [1, 2, 3, 4, 5, 6] (by decide) rfl
 ·
  show J _ _ [(2, .pointer (some ⟨g1, 0, none⟩)), (3, .pointer (some ⟨g2, 0, none⟩)), (4, .pointer (some ⟨g3, 0, none⟩)), (5, v4), (6, v5), (7, V), (8, .int .i64 4)] [var g1 [.int .i64 a.d0, .int .i64 a.d1, .int .i64 a.d2, .int .i64 a.d3, .int .i64 a.d4, .int .i64 a.d5, .int .i64 a.d6, .int .i64 a.d7, .int .i64 a.d8, .int .i64 a.d9, .int .i64 a.d10, .int .i64 a.d11] 23, var g2 [.int .i64 b.d0, .int .i64 b.d1, .int .i64 b.d2, .int .i64 b.d3, .int .i64 b.d4, .int .i64 b.d5, .int .i64 b.d6, .int .i64 b.d7, .int .i64 b.d8, .int .i64 b.d9, .int .i64 b.d10, .int .i64 b.d11] 23, var g3 [.int .i64 0, .int .i64 0, .int .i64 0, .int .i64 0, .int .i64 0, .int .i64 0, .int .i64 0, .int .i64 0, .int .i64 0, .int .i64 0, .int .i64 0, .int .i64 0] 23, row v4 3 1 (([a.d0, a.d1, a.d2, a.d3, a.d4, a.d5, a.d6, a.d7, a.d8, a.d9, a.d10, a.d11]).map encZ), row v5 3 1 (([b.d0, b.d1, b.d2, b.d3, b.d4, b.d5, b.d6, b.d7, b.d8, b.d9, b.d10, b.d11]).map encZ), row V 3 1 (([Rp.addC a.d0 b.d0, Rp.addC a.d1 b.d1, Rp.addC a.d2 b.d2, Rp.addC a.d3 b.d3, Rp.addC a.d4 b.d4, Rp.addC a.d5 b.d5, Rp.addC a.d6 b.d6, Rp.addC a.d7 b.d7, Rp.addC a.d8 b.d8, Rp.addC a.d9 b.d9, Rp.addC a.d10 b.d10, Rp.addC a.d11 b.d11].take 4).map encZ)]
  refine J.seq ?_
  refine J.seq ?_
  refine J.region ?_
  refine O.p (Pu.move rfl) rfl ?_
  refine O.p (Pu.move rfl) rfl ?_
  refine O.q (Qt.lenM Tryz.runUnderlying34 rfl (Src.row 3 rfl)) rfl ?_
  refine O.p (Pu.lss rfl rfl) rfl ?_
  refine O.nil ?_
  refine J.condT rfl rfl ?_
  refine J.skip ?_
  refine J.seq ?_
  refine J.block ?_
  refine J.drawMix [(0, false), (1, false), (2, false), (3, false), (4, false), (5, false), (6, false), (7, false), (8, false), (9, false), (10, true), (11, true), (12, false)] [3, 4] [row v4 3 1 (([a.d0, a.d1, a.d2, a.d3, a.d4, a.d5, a.d6, a.d7, a.d8, a.d9, a.d10, a.d11]).map encZ), row v5 3 1 (([b.d0, b.d1, b.d2, b.d3, b.d4, b.d5, b.d6, b.d7, b.d8, b.d9, b.d10, b.d11]).map encZ)] Tryz.mixed (by kernel_rfl) (by decide) rfl ?_
  refine Mx.p rfl (Pu.move rfl) rfl ?_
  refine Mx.p rfl (Pu.move rfl) rfl ?_
  refine Mx.p rfl (Pu.move rfl) rfl ?_
  have he23 : ([a.d0, a.d1, a.d2, a.d3, a.d4, a.d5, a.d6, a.d7, a.d8, a.d9, a.d10, a.d11])[4]? = some a.d4 := rfl
  refine Mx.q rfl (Qt.idxM Tryz.runUnderlying34 Tryz.sizeOf3 rfl (Src.row 0 rfl) rfl (by first | omega | decide | (simp; done) | (simp only [List.length_append, List.length_cons, List.length_nil, List.length_take]; omega)) (by first | omega | decide | (simp; done) | (simp only [List.length_append, List.length_cons, List.length_nil, List.length_take]; omega))) rfl ?_
  refine Mx.q rfl (Qt.ld rfl (Cel.eltM (Src.row 0 rfl) he23) (o := (voff v4 + 4 * 1)) (off := 0) (by omega) (Cut.one Tryz.isAgg3 rfl)) rfl ?_
  refine Mx.p rfl (Pu.move rfl) rfl ?_
  refine Mx.p rfl (Pu.move rfl) rfl ?_
  have he24 : ([b.d0, b.d1, b.d2, b.d3, b.d4, b.d5, b.d6, b.d7, b.d8, b.d9, b.d10, b.d11])[4]? = some b.d4 := rfl
  refine Mx.q rfl (Qt.idxM Tryz.runUnderlying34 Tryz.sizeOf3 rfl (Src.row 1 rfl) rfl (by first | omega | decide | (simp; done) | (simp only [List.length_append, List.length_cons, List.length_nil, List.length_take]; omega)) (by first | omega | decide | (simp; done) | (simp only [List.length_append, List.length_cons, List.length_nil, List.length_take]; omega))) rfl ?_
  refine Mx.q rfl (Qt.ld rfl (Cel.eltM (Src.row 1 rfl) he24) (o := (voff v5 + 4 * 1)) (off := 0) (by omega) (Cut.one Tryz.isAgg3 rfl)) rfl ?_
  refine Mx.call (vs := [.int .i64 a.d4, .int .i64 b.d4]) (caps := []) rfl (by exact Tryz.call32) rfl rfl (r01_Add a.d4 b.d4) (fun _ _ h => h) RoOk.nil rfl ?_
  refine Mx.l rfl (Lo.buildM (s := 1) encZ [Rp.addC a.d4 b.d4] [(0, .int .i64 (Rp.addC a.d4 b.d4))] (by exact Tryz.runUnderlying34) (by exact Tryz.sizeOf3) (by exact Tryz.zeroValue3) rfl rfl rfl (by kernel_rfl) rfl rfl) rfl ?_
  rintro V25 _ rfl
  refine MxK.go [4, 5] [0, 1] [row v4 3 1 (([a.d0, a.d1, a.d2, a.d3, a.d4, a.d5, a.d6, a.d7, a.d8, a.d9, a.d10, a.d11]).map encZ), row v5 3 1 (([b.d0, b.d1, b.d2, b.d3, b.d4, b.d5, b.d6, b.d7, b.d8, b.d9, b.d10, b.d11]).map encZ)] (by decide) rfl (by decide) rfl ?_
  refine Mx.l rfl (Lo.appendM (s := 1) 6 (by exact Tryz.underlying34) (by exact (info3).1) (by exact (info3).2.1) (by exact (info3).2.2.1) (by exact (info3).2.2.2) rfl rfl rfl rfl rfl (Src.row 0 rfl) encZ.one (by first | omega | decide | (simp; done) | (simp only [List.length_append, List.length_cons, List.length_nil, List.length_take]; omega)) (by first | omega | decide | (simp; done) | (simp only [List.length_append, List.length_cons, List.length_nil, List.length_take]; omega))) rfl ?_
  rintro V26 _ rfl
  refine MxK.go [4, 5] [0, 1] [row v4 3 1 (([a.d0, a.d1, a.d2, a.d3, a.d4, a.d5, a.d6, a.d7, a.d8, a.d9, a.d10, a.d11]).map encZ), row v5 3 1 (([b.d0, b.d1, b.d2, b.d3, b.d4, b.d5, b.d6, b.d7, b.d8, b.d9, b.d10, b.d11]).map encZ)] (by decide) rfl (by decide) rfl ?_
  refine Mx.p rfl (Pu.assign rfl) rfl ?_
  refine Mx.nil ?_
  refine J.blk ?_
  refine J.region ?_
  refine O.p (Pu.move rfl) rfl ?_
  refine O.p (Pu.add' rfl rfl (by first | omega | (simp only [List.length_append, List.length_cons, List.length_nil, List.length_set]; omega))) rfl ?_
  refine O.p (Pu.assign rfl) rfl ?_
  refine O.nil ?_
  exact J.lp ⟨5, V26⟩ (show 5 ≤ 12 from (by omega)) (show 12 - 5 < 12 - 4 from (by first | omega | decide | (simp; done) | (simp only [List.length_append, List.length_cons, List.length_nil, List.length_take]; omega))) ⟨rfl, rfl, rfl, rfl, rfl, rfl, (congrArg (fun z => some (Value.int .i64 z)) (by first | rfl | omega : (4 + 1 : Int) = (5 : Int))), trivial⟩ [1, 2, 3, 4, 5, 6] (by decide) rfl
 ·
  show J _ _ [(2, .pointer (some ⟨g1, 0, none⟩)), (3, .pointer (some ⟨g2, 0, none⟩)), (4, .pointer (some ⟨g3, 0, none⟩)), (5, v4), (6, v5), (7, V), (8, .int .i64 5)] [var g1 [.int .i64 a.d0, .int .i64 a.d1, .int .i64 a.d2, .int .i64 a.d3, .int .i64 a.d4, .int .i64 a.d5, .int .i64 a.d6, .int .i64 a.d7, .int .i64 a.d8, .int .i64 a.d9, .int .i64 a.d10, .int .i64 a.d11] 23, var g2 [.int .i64 b.d0, .int .i64 b.d1, .int .i64 b.d2, .int .i64 b.d3, .int .i64 b.d4, .int .i64 b.d5, .int .i64 b.d6, .int .i64 b.d7, .int .i64 b.d8, .int .i64 b.d9, .int .i64 b.d10, .int .i64 b.d11] 23, var g3 [.int .i64 0, .int .i64 0, .int .i64 0, .int .i64 0, .int .i64 0, .int .i64 0, .int .i64 0, .int .i64 0, .int .i64 0, .int .i64 0, .int .i64 0, .int .i64 0] 23, row v4 3 1 (([a.d0, a.d1, a.d2, a.d3, a.d4, a.d5, a.d6, a.d7, a.d8, a.d9, a.d10, a.d11]).map encZ), row v5 3 1 (([b.d0, b.d1, b.d2, b.d3, b.d4, b.d5, b.d6, b.d7, b.d8, b.d9, b.d10, b.d11]).map encZ), row V 3 1 (([Rp.addC a.d0 b.d0, Rp.addC a.d1 b.d1, Rp.addC a.d2 b.d2, Rp.addC a.d3 b.d3, Rp.addC a.d4 b.d4, Rp.addC a.d5 b.d5, Rp.addC a.d6 b.d6, Rp.addC a.d7 b.d7, Rp.addC a.d8 b.d8, Rp.addC a.d9 b.d9, Rp.addC a.d10 b.d10, Rp.addC a.d11 b.d11].take 5).map encZ)]
  refine J.seq ?_
  refine J.seq ?_
  refine J.region ?_
  refine O.p (Pu.move rfl) rfl ?_
  refine O.p (Pu.move rfl) rfl ?_
  refine O.q (Qt.lenM Tryz.runUnderlying34 rfl (Src.row 3 rfl)) rfl ?_
  refine O.p (Pu.lss rfl rfl) rfl ?_
  refine O.nil ?_
  refine J.condT rfl rfl ?_
  refine J.skip ?_
  refine J.seq ?_
  refine J.block ?_
  refine J.drawMix [(0, false), (1, false), (2, false), (3, false), (4, false), (5, false), (6, false), (7, false), (8, false), (9, false), (10, true), (11, true), (12, false)] [3, 4] [row v4 3 1 (([a.d0, a.d1, a.d2, a.d3, a.d4, a.d5, a.d6, a.d7, a.d8, a.d9, a.d10, a.d11]).map encZ), row v5 3 1 (([b.d0, b.d1, b.d2, b.d3, b.d4, b.d5, b.d6, b.d7, b.d8, b.d9, b.d10, b.d11]).map encZ)] Tryz.mixed (by kernel_rfl) (by decide) rfl ?_
  refine Mx.p rfl (Pu.move rfl) rfl ?_
  refine Mx.p rfl (Pu.move rfl) rfl ?_
  refine Mx.p rfl (Pu.move rfl) rfl ?_
  have he27 : ([a.d0, a.d1, a.d2, a.d3, a.d4, a.d5, a.d6, a.d7, a.d8, a.d9, a.d10, a.d11])[5]? = some a.d5 := rfl
  refine Mx.q rfl (Qt.idxM Tryz.runUnderlying34 Tryz.sizeOf3 rfl (Src.row 0 rfl) rfl (by first | omega | decide | (simp; done) | (simp only [List.length_append, List.length_cons, List.length_nil, List.length_take]; omega)) (by first | omega | decide | (simp; done) | (simp only [List.length_append, List.length_cons, List.length_nil, List.length_take]; omega))) rfl ?_
  refine Mx.q rfl (Qt.ld rfl (Cel.eltM (Src.row 0 rfl) he27) (o := (voff v4 + 5 * 1)) (off := 0) (by omega) (Cut.one Tryz.isAgg3 rfl)) rfl ?_
  refine Mx.p rfl (Pu.move rfl) rfl ?_
  refine Mx.p rfl (Pu.move rfl) rfl ?_
  have he28 : ([b.d0, b.d1, b.d2, b.d3, b.d4, b.d5, b.d6, b.d7, b.d8, b.d9, b.d10, b.d11])[5]? = some b.d5 := rfl
  refine Mx.q rfl (Qt.idxM Tryz.runUnderlying34 Tryz.sizeOf3 rfl (Src.row 1 rfl) rfl (by first | omega | decide | (simp; done) | (simp only [List.length_append, List.length_cons, List.length_nil, List.length_take]; omega)) (by first | omega | decide | (simp; done) | (simp only [List.length_append, List.length_cons, List.length_nil, List.length_take]; omega))) rfl ?_
  refine Mx.q rfl (Qt.ld rfl (Cel.eltM (Src.row 1 rfl) he28) (o := (voff v5 + 5 * 1)) (off := 0) (by omega) (Cut.one Tryz.isAgg3 rfl)) rfl ?_
  refine Mx.call (vs := [.int .i64 a.d5, .int .i64 b.d5]) (caps := []) rfl (by exact Tryz.call32) rfl rfl (r01_Add a.d5 b.d5) (fun _ _ h => h) RoOk.nil rfl ?_
  refine Mx.l rfl (Lo.buildM (s := 1) encZ [Rp.addC a.d5 b.d5] [(0, .int .i64 (Rp.addC a.d5 b.d5))] (by exact Tryz.runUnderlying34) (by exact Tryz.sizeOf3) (by exact Tryz.zeroValue3) rfl rfl rfl (by kernel_rfl) rfl rfl) rfl ?_
  rintro V29 _ rfl
  refine MxK.go [4, 5] [0, 1] [row v4 3 1 (([a.d0, a.d1, a.d2, a.d3, a.d4, a.d5, a.d6, a.d7, a.d8, a.d9, a.d10, a.d11]).map encZ), row v5 3 1 (([b.d0, b.d1, b.d2, b.d3, b.d4, b.d5, b.d6, b.d7, b.d8, b.d9, b.d10, b.d11]).map encZ)] (by decide) rfl (by decide) rfl ?_
  refine Mx.l rfl (Lo.appendM (s := 1) 6 (by exact Tryz.underlying34) (by exact (info3).1) (by exact (info3).2.1) (by exact (info3).2.2.1) (by exact (info3).2.2.2) rfl rfl rfl rfl rfl (Src.row 0 rfl) encZ.one (by first | omega | decide | (simp; done) | (simp only [List.length_append, List.length_cons, List.length_nil, List.length_take]; omega)) (by first | omega | decide | (simp; done) | (simp only [List.length_append, List.length_cons, List.length_nil, List.length_take]; omega))) rfl ?_
  rintro V30 _ rfl
  refine MxK.go [4, 5] [0, 1] [row v4 3 1 (([a.d0, a.d1, a.d2, a.d3, a.d4, a.d5, a.d6, a.d7, a.d8, a.d9, a.d10, a.d11]).map encZ), row v5 3 1 (([b.d0, b.d1, b.d2, b.d3, b.d4, b.d5, b.d6, b.d7, b.d8, b.d9, b.d10, b.d11]).map encZ)] (by decide) rfl (by decide) rfl ?_
  refine Mx.p rfl (Pu.assign rfl) rfl ?_
  refine Mx.nil ?_
  refine J.blk ?_
  refine J.region ?_
  refine O.p (Pu.move rfl) rfl ?_
  refine O.p (Pu.add' rfl rfl (by first | omega | (simp only [List.length_append, List.length_cons, List.length_nil, List.length_set]; omega))) rfl ?_
  refine O.p (Pu.assign rfl) rfl ?_
  refine O.nil ?_
  exact J.lp ⟨6, V30⟩ (show 6 ≤ 12 from (by omega)) (show 12 - 6 < 12 - 5 from (by first | omega | decide | (simp; done) | (simp only [List.length_append, List.length_cons, List.length_nil, List.length_take]; omega))) ⟨rfl, rfl, rfl, rfl, rfl, rfl, (congrArg (fun z => some (Value.int .i64 z)) (by first | rfl | omega : (5 + 1 : Int) = (6 : Int))), trivial⟩ [1, 2, 3, 4, 5, 6] (by decide) rfl
 ·
  show J _ _ [(2, .pointer (some ⟨g1, 0, none⟩)), (3, .pointer (some ⟨g2, 0, none⟩)), (4, .pointer (some ⟨g3, 0, none⟩)), (5, v4), (6, v5), (7, V), (8, .int .i64 6)] [var g1 [.int .i64 a.d0, .int .i64 a.d1, .int .i64 a.d2, .int .i64 a.d3, .int .i64 a.d4, .int .i64 a.d5, .int .i64 a.d6, .int .i64 a.d7, .int .i64 a.d8, .int .i64 a.d9, .int .i64 a.d10, .int .i64 a.d11] 23, var g2 [.int .i64 b.d0, .int .i64 b.d1, .int .i64 b.d2, .int .i64 b.d3, .int .i64 b.d4, .int .i64 b.d5, .int .i64 b.d6, .int .i64 b.d7, .int .i64 b.d8, .int .i64 b.d9, .int .i64 b.d10, .int .i64 b.d11] 23, var g3 [.int .i64 0, .int .i64 0, .int .i64 0, .int .i64 0, .int .i64 0, .int .i64 0, .int .i64 0, .int .i64 0, .int .i64 0, .int .i64 0, .int .i64 0, .int .i64 0] 23, row v4 3 1 (([a.d0, a.d1, a.d2, a.d3, a.d4, a.d5, a.d6, a.d7, a.d8, a.d9, a.d10, a.d11]).map encZ), row v5 3 1 (([b.d0, b.d1, b.d2, b.d3, b.d4, b.d5, b.d6, b.d7, b.d8, b.d9, b.d10, b.d11]).map encZ), row V 3 1 (([Rp.addC a.d0 b.d0, Rp.addC a.d1 b.d1, Rp.addC a.d2 b.d2, Rp.addC a.d3 b.d3, Rp.addC a.d4 b.d4, Rp.addC a.d5 b.d5, Rp.addC a.d6 b.d6, Rp.addC a.d7 b.d7, Rp.addC a.d8 b.d8, Rp.addC a.d9 b.d9, Rp.addC a.d10 b.d10, Rp.addC a.d11 b.d11].take 6).map encZ)]
  refine J.seq ?_
  refine J.seq ?_
  refine J.region ?_
  refine O.p (Pu.move rfl) rfl ?_
  refine O.p (Pu.move rfl) rfl ?_
  refine O.q (Qt.lenM Tryz.runUnderlying34 rfl (Src.row 3 rfl)) rfl ?_
  refine O.p (Pu.lss rfl rfl) rfl ?_
  refine O.nil ?_
  refine J.condT rfl rfl ?_
  refine J.skip ?_
  refine J.seq ?_
  refine J.block ?_
  refine J.drawMix [(0, false), (1, false), (2, false), (3, false), (4, false), (5, false), (6, false), (7, false), (8, false), (9, false), (10, true), (11, true), (12, false)] [3, 4] [row v4 3 1 (([a.d0, a.d1, a.d2, a.d3, a.d4, a.d5, a.d6, a.d7, a.d8, a.d9, a.d10, a.d11]).map encZ), row v5 3 1 (([b.d0, b.d1, b.d2, b.d3, b.d4, b.d5, b.d6, b.d7, b.d8, b.d9, b.d10, b.d11]).map encZ)] Tryz.mixed (by kernel_rfl) (by decide) rfl ?_
  refine Mx.p rfl (Pu.move rfl) rfl ?_
  refine Mx.p rfl (Pu.move rfl) rfl ?_
  refine Mx.p rfl (Pu.move rfl) rfl ?_
  have he31 : ([a.d0, a.d1, a.d2, a.d3, a.d4, a.d5, a.d6, a.d7, a.d8, a.d9, a.d10, a.d11])[6]? = some a.d6 := rfl
  refine Mx.q rfl (Qt.idxM Tryz.runUnderlying34 Tryz.sizeOf3 rfl (Src.row 0 rfl) rfl (by first | omega | decide | (simp; done) | (simp only [List.length_append, List.length_cons, List.length_nil, List.length_take]; omega)) (by first | omega | decide | (simp; done) | (simp only [List.length_append, List.length_cons, List.length_nil, List.length_take]; omega))) rfl ?_
  refine Mx.q rfl (Qt.ld rfl (Cel.eltM (Src.row 0 rfl) he31) (o := (voff v4 + 6 * 1)) (off := 0) (by omega) (Cut.one Tryz.isAgg3 rfl)) rfl ?_
  refine Mx.p rfl (Pu.move rfl) rfl ?_
  refine Mx.p rfl (Pu.move rfl) rfl ?_
  have he32 : ([b.d0, b.d1, b.d2, b.d3, b.d4, b.d5, b.d6, b.d7, b.d8, b.d9, b.d10, b.d11])[6]? = some b.d6 := rfl
  refine Mx.q rfl (Qt.idxM Tryz.runUnderlying34 Tryz.sizeOf3 rfl (Src.row 1 rfl) rfl (by first | omega | decide | (simp; done) | (simp only [List.length_append, List.length_cons, List.length_nil, List.length_take]; omega)) (by first | omega | decide | (simp; done) | (simp only [List.length_append, List.length_cons, List.length_nil, List.length_take]; omega))) rfl ?_
  refine Mx.q rfl (Qt.ld rfl (Cel.eltM (Src.row 1 rfl) he32) (o := (voff v5 + 6 * 1)) (off := 0) (by omega) (Cut.one Tryz.isAgg3 rfl)) rfl ?_
  refine Mx.call (vs := [.int .i64 a.d6, .int .i64 b.d6]) (caps := []) rfl (by exact Tryz.call32) rfl rfl (r01_Add a.d6 b.d6) (fun _ _ h => h) RoOk.nil rfl ?_
  refine Mx.l rfl (Lo.buildM (s := 1) encZ [Rp.addC a.d6 b.d6] [(0, .int .i64 (Rp.addC a.d6 b.d6))] (by exact Tryz.runUnderlying34) (by exact Tryz.sizeOf3) (by exact Tryz.zeroValue3) rfl rfl rfl (by kernel_rfl) rfl rfl) rfl ?_
  rintro V33 _ rfl
  refine MxK.go [4, 5] [0, 1] [row v4 3 1 (([a.d0, a.d1, a.d2, a.d3, a.d4, a.d5, a.d6, a.d7, a.d8, a.d9, a.d10, a.d11]).map encZ), row v5 3 1 (([b.d0, b.d1, b.d2, b.d3, b.d4, b.d5, b.d6, b.d7, b.d8, b.d9, b.d10, b.d11]).map encZ)] (by decide) rfl (by decide) rfl ?_
  refine Mx.l rfl (Lo.appendM (s := 1) 6 (by exact Tryz.underlying34) (by exact (info3).1) (by exact (info3).2.1) (by exact (info3).2.2.1) (by exact (info3).2.2.2) rfl rfl rfl rfl rfl (Src.row 0 rfl) encZ.one (by first | omega | decide | (simp; done) | (simp only [List.length_append, List.length_cons, List.length_nil, List.length_take]; omega)) (by first | omega | decide | (simp; done) | (simp only [List.length_append, List.length_cons, List.length_nil, List.length_take]; omega))) rfl ?_
  rintro V34 _ rfl
  refine MxK.go [4, 5] [0, 1] [row v4 3 1 (([a.d0, a.d1, a.d2, a.d3, a.d4, a.d5, a.d6, a.d7, a.d8, a.d9, a.d10, a.d11]).map encZ), row v5 3 1 (([b.d0, b.d1, b.d2, b.d3, b.d4, b.d5, b.d6, b.d7, b.d8, b.d9, b.d10, b.d11]).map encZ)] (by decide) rfl (by decide) rfl ?_
  refine Mx.p rfl (Pu.assign rfl) rfl ?_
  refine Mx.nil ?_
  refine J.blk ?_
  refine J.region ?_
  refine O.p (Pu.move rfl) rfl ?_
  refine O.p (Pu.add' rfl rfl (by first | omega | (simp only [List.length_append, List.length_cons, List.length_nil, List.length_set]; omega))) rfl ?_
  refine O.p (Pu.assign rfl) rfl ?_
  refine O.nil ?_
  exact J.lp ⟨7, V34⟩ (show 7 ≤ 12 from (by omega)) (show 12 - 7 < 12 - 6 from (by first | omega | decide | (simp; done) | (simp only [List.length_append, List.length_cons, List.length_nil, List.length_take]; omega))) ⟨rfl, rfl, rfl, rfl, rfl, rfl, (congrArg (fun z => some (Value.int .i64 z)) (by first | rfl | omega : (6 + 1 : Int) = (7 : Int))), trivial⟩ [1, 2, 3, 4, 5, 6] (by decide) rfl
 ·
  show J _ _ [(2, .pointer (some ⟨g1, 0, none⟩)), (3, .pointer (some ⟨g2, 0, none⟩)), (4, .pointer (some ⟨g3, 0, none⟩)), (5, v4), (6, v5), (7, V), (8, .int .i64 7)] [var g1 [.int .i64 a.d0, .int .i64 a.d1, .int .i64 a.d2, .int .i64 a.d3, .int .i64 a.d4, .int .i64 a.d5, .int .i64 a.d6, .int .i64 a.d7, .int .i64 a.d8, .int .i64 a.d9, .int .i64 a.d10, .int .i64 a.d11] 23, var g2 [.int .i64 b.d0, .int .i64 b.d1, .int .i64 b.d2, .int .i64 b.d3, .int .i64 b.d4, .int .i64 b.d5, .int .i64 b.d6, .int .i64 b.d7, .int .i64 b.d8, .int .i64 b.d9, .int .i64 b.d10, .int .i64 b.d11] 23, var g3 [.int .i64 0, .int .i64 0, .int .i64 0, .int .i64 0, .int .i64 0, .int .i64 0, .int .i64 0, .int .i64 0, .int .i64 0, .int .i64 0, .int .i64 0, .int .i64 0] 23, row v4 3 1 (([a.d0, a.d1, a.d2, a.d3, a.d4, a.d5, a.d6, a.d7, a.d8, a.d9, a.d10, a.d11]).map encZ), row v5 3 1 (([b.d0, b.d1, b.d2, b.d3, b.d4, b.d5, b.d6, b.d7, b.d8, b.d9, b.d10, b.d11]).map encZ), row V 3 1 (([Rp.addC a.d0 b.d0, Rp.addC a.d1 b.d1, Rp.addC a.d2 b.d2, Rp.addC a.d3 b.d3, Rp.addC a.d4 b.d4, Rp.addC a.d5 b.d5, Rp.addC a.d6 b.d6, Rp.addC a.d7 b.d7, Rp.addC a.d8 b.d8, Rp.addC a.d9 b.d9, Rp.addC a.d10 b.d10, Rp.addC a.d11 b.d11].take 7).map encZ)]
  refine J.seq ?_
  refine J.seq ?_
  refine J.region ?_
  refine O.p (Pu.move rfl) rfl ?_
  refine O.p (Pu.move rfl) rfl ?_
  refine O.q (Qt.lenM Tryz.runUnderlying34 rfl (Src.row 3 rfl)) rfl ?_
  refine O.p (Pu.lss rfl rfl) rfl ?_
  refine O.nil ?_
  refine J.condT rfl rfl ?_
  refine J.skip ?_
  refine J.seq ?_
  refine J.block ?_
  refine J.drawMix [(0, false), (1, false), (2, false), (3, false), (4, false), (5, false), (6, false), (7, false), (8, false), (9, false), (10, true), (11, true), (12, false)] [3, 4] [row v4 3 1 (([a.d0, a.d1, a.d2, a.d3, a.d4, a.d5, a.d6, a.d7, a.d8, a.d9, a.d10, a.d11]).map encZ), row v5 3 1 (([b.d0, b.d1, b.d2, b.d3, b.d4, b.d5, b.d6, b.d7, b.d8, b.d9, b.d10, b.d11]).map encZ)] Tryz.mixed (by kernel_rfl) (by decide) rfl ?_
  refine Mx.p rfl (Pu.move rfl) rfl ?_
  refine Mx.p rfl (Pu.move rfl) rfl ?_
  refine Mx.p rfl (Pu.move rfl) rfl ?_
  have he35 : ([a.d0, a.d1, a.d2, a.d3, a.d4, a.d5, a.d6, a.d7, a.d8, a.d9, a.d10, a.d11])[7]? = some a.d7 := rfl
  refine Mx.q rfl (Qt.idxM Tryz.runUnderlying34 Tryz.sizeOf3 rfl (Src.row 0 rfl) rfl (by first | omega | decide | (simp; done) | (simp only [List.length_append, List.length_cons, List.length_nil, List.length_take]; omega)) (by first | omega | decide | (simp; done) | (simp only [List.length_append, List.length_cons, List.length_nil, List.length_take]; omega))) rfl ?_
  refine Mx.q rfl (Qt.ld rfl (Cel.eltM (Src.row 0 rfl) he35) (o := (voff v4 + 7 * 1)) (off := 0) (by omega) (Cut.one Tryz.isAgg3 rfl)) rfl ?_
  refine Mx.p rfl (Pu.move rfl) rfl ?_
  refine Mx.p rfl (Pu.move rfl) rfl ?_
  have he36 : ([b.d0, b.d1, b.d2, b.d3, b.d4, b.d5, b.d6, b.d7, b.d8, b.d9, b.d10, b.d11])[7]? = some b.d7 := rfl
  refine Mx.q rfl (Qt.idxM Tryz.runUnderlying34 Tryz.sizeOf3 rfl (Src.row 1 rfl) rfl (by first | omega | decide | (simp; done) | (simp only [List.length_append, List.length_cons, List.length_nil, List.length_take]; omega)) (by first | omega | decide | (simp; done) | (simp only [List.length_append, List.length_cons, List.length_nil, List.length_take]; omega))) rfl ?_
  refine Mx.q rfl (Qt.ld rfl (Cel.eltM (Src.row 1 rfl) he36) (o := (voff v5 + 7 * 1)) (off := 0) (by omega) (Cut.one Tryz.isAgg3 rfl)) rfl ?_
  refine Mx.call (vs := [.int .i64 a.d7, .int .i64 b.d7]) (caps := []) rfl (by exact Tryz.call32) rfl rfl (r01_Add a.d7 b.d7) (fun _ _ h => h) RoOk.nil rfl ?_
  refine Mx.l rfl (Lo.buildM (s := 1) encZ [Rp.addC a.d7 b.d7] [(0, .int .i64 (Rp.addC a.d7 b.d7))] (by exact Tryz.runUnderlying34) (by exact Tryz.sizeOf3) (by exact Tryz.zeroValue3) rfl rfl rfl (by kernel_rfl) rfl rfl) rfl ?_
  rintro V37 _ rfl
  refine MxK.go [4, 5] [0, 1] [row v4 3 1 (([a.d0, a.d1, a.d2, a.d3, a.d4, a.d5, a.d6, a.d7, a.d8, a.d9, a.d10, a.d11]).map encZ), row v5 3 1 (([b.d0, b.d1, b.d2, b.d3, b.d4, b.d5, b.d6, b.d7, b.d8, b.d9, b.d10, b.d11]).map encZ)] (by decide) rfl (by decide) rfl ?_
  refine Mx.l rfl (Lo.appendM (s := 1) 6 (by exact Tryz.underlying34) (by exact (info3).1) (by exact (info3).2.1) (by exact (info3).2.2.1) (by exact (info3).2.2.2) rfl rfl rfl rfl rfl (Src.row 0 rfl) encZ.one (by first | omega | decide | (simp; done) | (simp only [List.length_append, List.length_cons, List.length_nil, List.length_take]; omega)) (by first | omega | decide | (simp; done) | (simp only [List.length_append, List.length_cons, List.length_nil, List.length_take]; omega))) rfl ?_
  rintro V38 _ rfl
  refine MxK.go [4, 5] [0, 1] [row v4 3 1 (([a.d0, a.d1, a.d2, a.d3, a.d4, a.d5, a.d6, a.d7, a.d8, a.d9, a.d10, a.d11]).map encZ), row v5 3 1 (([b.d0, b.d1, b.d2, b.d3, b.d4, b.d5, b.d6, b.d7, b.d8, b.d9, b.d10, b.d11]).map encZ)] (by decide) rfl (by decide) rfl ?_
  refine Mx.p rfl (Pu.assign rfl) rfl ?_
  refine Mx.nil ?_
  refine J.blk ?_
  refine J.region ?_
  refine O.p (Pu.move rfl) rfl ?_
  refine O.p (Pu.add' rfl rfl (by first | omega | (simp only [List.length_append, List.length_cons, List.length_nil, List.length_set]; omega))) rfl ?_
  refine O.p (Pu.assign rfl) rfl ?_
  refine O.nil ?_
  exact J.lp ⟨8, V38⟩ (show 8 ≤ 12 from (by omega)) (show 12 - 8 < 12 - 7 from (by first | omega | decide | (simp; done) | (simp only [List.length_append, List.length_cons, List.length_nil, List.length_take]; omega))) ⟨rfl, rfl, rfl, rfl, rfl, rfl, (congrArg (fun z => some (Value.int .i64 z)) (by first | rfl | omega : (7 + 1 : Int) = (8 : Int))), trivial⟩ [1, 2, 3, 4, 5, 6] (by decide) rfl
 ·
  show J _ _ [(2, .pointer (some ⟨g1, 0, none⟩)), (3, .pointer (some ⟨g2, 0, none⟩)), (4, .pointer (some ⟨g3, 0, none⟩)), (5, v4), (6, v5), (7, V), (8, .int .i64 8)] [var g1 [.int .i64 a.d0, .int .i64 a.d1, .int .i64 a.d2, .int .i64 a.d3, .int .i64 a.d4, .int .i64 a.d5, .int .i64 a.d6, .int .i64 a.d7, .int .i64 a.d8, .int .i64 a.d9, .int .i64 a.d10, .int .i64 a.d11] 23, var g2 [.int .i64 b.d0, .int .i64 b.d1, .int .i64 b.d2, .int .i64 b.d3, .int .i64 b.d4, .int .i64 b.d5, .int .i64 b.d6, .int .i64 b.d7, .int .i64 b.d8, .int .i64 b.d9, .int .i64 b.d10, .int .i64 b.d11] 23, var g3 [.int .i64 0, .int .i64 0, .int .i64 0, .int .i64 0, .int .i64 0, .int .i64 0, .int .i64 0, .int .i64 0, .int .i64 0, .int .i64 0, .int .i64 0, .int .i64 0] 23, row v4 3 1 (([a.d0, a.d1, a.d2, a.d3, a.d4, a.d5, a.d6, a.d7, a.d8, a.d9, a.d10, a.d11]).map encZ), row v5 3 1 (([b.d0, b.d1, b.d2, b.d3, b.d4, b.d5, b.d6, b.d7, b.d8, b.d9, b.d10, b.d11]).map encZ), row V 3 1 (([Rp.addC a.d0 b.d0, Rp.addC a.d1 b.d1, Rp.addC a.d2 b.d2, Rp.addC a.d3 b.d3, Rp.addC a.d4 b.d4, Rp.addC a.d5 b.d5, Rp.addC a.d6 b.d6, Rp.addC a.d7 b.d7, Rp.addC a.d8 b.d8, Rp.addC a.d9 b.d9, Rp.addC a.d10 b.d10, Rp.addC a.d11 b.d11].take 8).map encZ)]
  refine J.seq ?_
  refine J.seq ?_
  refine J.region ?_
  refine O.p (Pu.move rfl) rfl ?_
  refine O.p (Pu.move rfl) rfl ?_
  refine O.q (Qt.lenM Tryz.runUnderlying34 rfl (Src.row 3 rfl)) rfl ?_
  refine O.p (Pu.lss rfl rfl) rfl ?_
  refine O.nil ?_
  refine J.condT rfl rfl ?_
  refine J.skip ?_
  refine J.seq ?_
  refine J.block ?_
  refine J.drawMix [(0, false), (1, false), (2, false), (3, false), (4, false), (5, false), (6, false), (7, false), (8, false), (9, false), (10, true), (11, true), (12, false)] [3, 4] [row v4 3 1 (([a.d0, a.d1, a.d2, a.d3, a.d4, a.d5, a.d6, a.d7, a.d8, a.d9, a.d10, a.d11]).map encZ), row v5 3 1 (([b.d0, b.d1, b.d2, b.d3, b.d4, b.d5, b.d6, b.d7, b.d8, b.d9, b.d10, b.d11]).map encZ)] Tryz.mixed (by kernel_rfl) (by decide) rfl ?_
  refine Mx.p rfl (Pu.move rfl) rfl ?_
  refine Mx.p rfl (Pu.move rfl) rfl ?_
  refine Mx.p rfl (Pu.move rfl) rfl ?_
  have he39 : ([a.d0, a.d1, a.d2, a.d3, a.d4, a.d5, a.d6, a.d7, a.d8, a.d9, a.d10, a.d11])[8]? = some a.d8 := rfl
  refine Mx.q rfl (Qt.idxM Tryz.runUnderlying34 Tryz.sizeOf3 rfl (Src.row 0 rfl) rfl (by first | omega | decide | (simp; done) | (simp only [List.length_append, List.length_cons, List.length_nil, List.length_take]; omega)) (by first | omega | decide | (simp; done) | (simp only [List.length_append, List.length_cons, List.length_nil, List.length_take]; omega))) rfl ?_
  refine Mx.q rfl (Qt.ld rfl (Cel.eltM (Src.row 0 rfl) he39) (o := (voff v4 + 8 * 1)) (off := 0) (by omega) (Cut.one Tryz.isAgg3 rfl)) rfl ?_
  refine Mx.p rfl (Pu.move rfl) rfl ?_
  refine Mx.p rfl (Pu.move rfl) rfl ?_
  have he40 : ([b.d0, b.d1, b.d2, b.d3, b.d4, b.d5, b.d6, b.d7, b.d8, b.d9, b.d10, b.d11])[8]? = some b.d8 := rfl
  refine Mx.q rfl (Qt.idxM Tryz.runUnderlying34 Tryz.sizeOf3 rfl (Src.row 1 rfl) rfl (by first | omega | decide | (simp; done) | (simp only [List.length_append, List.length_cons, List.length_nil, List.length_take]; omega)) (by first | omega | decide | (simp; done) | (simp only [List.length_append, List.length_cons, List.length_nil, List.length_take]; omega))) rfl ?_
  refine Mx.q rfl (Qt.ld rfl (Cel.eltM (Src.row 1 rfl) he40) (o := (voff v5 + 8 * 1)) (off := 0) (by omega) (Cut.one Tryz.isAgg3 rfl)) rfl ?_
  refine Mx.call (vs := [.int .i64 a.d8, .int .i64 b.d8]) (caps := []) rfl (by exact Tryz.call32) rfl rfl (r01_Add a.d8 b.d8) (fun _ _ h => h) RoOk.nil rfl ?_
  refine Mx.l rfl (Lo.buildM (s := 1) encZ [Rp.addC a.d8 b.d8] [(0, .int .i64 (Rp.addC a.d8 b.d8))] (by exact Tryz.runUnderlying34) (by exact Tryz.sizeOf3) (by exact Tryz.zeroValue3) rfl rfl rfl (by kernel_rfl) rfl rfl) rfl ?_
  rintro V41 _ rfl
  refine MxK.go [4, 5] [0, 1] [row v4 3 1 (([a.d0, a.d1, a.d2, a.d3, a.d4, a.d5, a.d6, a.d7, a.d8, a.d9, a.d10, a.d11]).map encZ), row v5 3 1 (([b.d0, b.d1, b.d2, b.d3, b.d4, b.d5, b.d6, b.d7, b.d8, b.d9, b.d10, b.d11]).map encZ)] (by decide) rfl (by decide) rfl ?_
  refine Mx.l rfl (Lo.appendM (s := 1) 6 (by exact Tryz.underlying34) (by exact (info3).1) (by exact (info3).2.1) (by exact (info3).2.2.1) (by exact (info3).2.2.2) rfl rfl rfl rfl rfl (Src.row 0 rfl) encZ.one (by first | omega | decide | (simp; done) | (simp only [List.length_append, List.length_cons, List.length_nil, List.length_take]; omega)) (by first | omega | decide | (simp; done) | (simp only [List.length_append, List.length_cons, List.length_nil, List.length_take]; omega))) rfl ?_
  rintro V42 _ rfl
  refine MxK.go [4, 5] [0, 1] [row v4 3 1 (([a.d0, a.d1, a.d2, a.d3, a.d4, a.d5, a.d6, a.d7, a.d8, a.d9, a.d10, a.d11]).map encZ), row v5 3 1 (([b.d0, b.d1, b.d2, b.d3, b.d4, b.d5, b.d6, b.d7, b.d8, b.d9, b.d10, b.d11]).map encZ)] (by decide) rfl (by decide) rfl ?_
  refine Mx.p rfl (Pu.assign rfl) rfl ?_
  refine Mx.nil ?_
  refine J.blk ?_
  refine J.region ?_
  refine O.p (Pu.move rfl) rfl ?_
  refine O.p (Pu.add' rfl rfl (by first | omega | (simp only [List.length_append, List.length_cons, List.length_nil, List.length_set]; omega))) rfl ?_
  refine O.p (Pu.assign rfl) rfl ?_
  refine O.nil ?_
  exact J.lp ⟨9, V42⟩ (show 9 ≤ 12 from (by omega)) (show 12 - 9 < 12 - 8 from (by first | omega | decide | (simp; done) | (simp only [List.length_append, List.length_cons, List.length_nil, List.length_take]; omega))) ⟨rfl, rfl, rfl, rfl, rfl, rfl, (congrArg (fun z => some (Value.int .i64 z)) (by first | rfl | omega : (8 + 1 : Int) = (9 : Int))), trivial⟩ [1, 2, 3, 4, 5, 6] (by decide) rfl
 ·
  show J _ _ [(2, .pointer (some ⟨g1, 0, none⟩)), (3, .pointer (some ⟨g2, 0, none⟩)), (4, .pointer (some ⟨g3, 0, none⟩)), (5, v4), (6, v5), (7, V), (8, .int .i64 9)] [var g1 [.int .i64 a.d0, .int .i64 a.d1, .int .i64 a.d2, .int .i64 a.d3, .int .i64 a.d4, .int .i64 a.d5, .int .i64 a.d6, .int .i64 a.d7, .int .i64 a.d8, .int .i64 a.d9, .int .i64 a.d10, .int .i64 a.d11] 23, var g2 [.int .i64 b.d0, .int .i64 b.d1, .int .i64 b.d2, .int .i64 b.d3, .int .i64 b.d4, .int .i64 b.d5, .int .i64 b.d6, .int .i64 b.d7, .int .i64 b.d8, .int .i64 b.d9, .int .i64 b.d10, .int .i64 b.d11] 23, var g3 [.int .i64 0, .int .i64 0, .int .i64 0, .int .i64 0, .int .i64 0, .int .i64 0, .int .i64 0, .int .i64 0, .int .i64 0, .int .i64 0, .int .i64 0, .int .i64 0] 23, row v4 3 1 (([a.d0, a.d1, a.d2, a.d3, a.d4, a.d5, a.d6, a.d7, a.d8, a.d9, a.d10, a.d11]).map encZ), row v5 3 1 (([b.d0, b.d1, b.d2, b.d3, b.d4, b.d5, b.d6, b.d7, b.d8, b.d9, b.d10, b.d11]).map encZ), row V 3 1 (([Rp.addC a.d0 b.d0, Rp.addC a.d1 b.d1, Rp.addC a.d2 b.d2, Rp.addC a.d3 b.d3, Rp.addC a.d4 b.d4, Rp.addC a.d5 b.d5, Rp.addC a.d6 b.d6, Rp.addC a.d7 b.d7, Rp.addC a.d8 b.d8, Rp.addC a.d9 b.d9, Rp.addC a.d10 b.d10, Rp.addC a.d11 b.d11].take 9).map encZ)]
  refine J.seq ?_
  refine J.seq ?_
  refine J.region ?_
  refine O.p (Pu.move rfl) rfl ?_
  refine O.p (Pu.move rfl) rfl ?_
  refine O.q (Qt.lenM Tryz.runUnderlying34 rfl (Src.row 3 rfl)) rfl ?_
  refine O.p (Pu.lss rfl rfl) rfl ?_
  refine O.nil ?_
  refine J.condT rfl rfl ?_
  refine J.skip ?_
  refine J.seq ?_
  refine J.block ?_
  refine J.drawMix [(0, false), (1, false), (2, false), (3, false), (4, false), (5, false), (6, false), (7, false), (8, false), (9, false), (10, true), (11, true), (12, false)] [3, 4] [row v4 3 1 (([a.d0, a.d1, a.d2, a.d3, a.d4, a.d5, a.d6, a.d7, a.d8, a.d9, a.d10, a.d11]).map encZ), row v5 3 1 (([b.d0, b.d1, b.d2, b.d3, b.d4, b.d5, b.d6, b.d7, b.d8, b.d9, b.d10, b.d11]).map encZ)] Tryz.mixed (by kernel_rfl) (by decide) rfl ?_
  refine Mx.p rfl (Pu.move rfl) rfl ?_
  refine Mx.p rfl (Pu.move rfl) rfl ?_
  refine Mx.p rfl (Pu.move rfl) rfl ?_
  have he43 : ([a.d0, a.d1, a.d2, a.d3, a.d4, a.d5, a.d6, a.d7, a.d8, a.d9, a.d10, a.d11])[9]? = some a.d9 := rfl
  refine Mx.q rfl (Qt.idxM Tryz.runUnderlying34 Tryz.sizeOf3 rfl (Src.row 0 rfl) rfl (by first | omega | decide | (simp; done) | (simp only [List.length_append, List.length_cons, List.length_nil, List.length_take]; omega)) (by first | omega | decide | (simp; done) | (simp only [List.length_append, List.length_cons, List.length_nil, List.length_take]; omega))) rfl ?_
  refine Mx.q rfl (Qt.ld rfl (Cel.eltM (Src.row 0 rfl) he43) (o := (voff v4 + 9 * 1)) (off := 0) (by omega) (Cut.one Tryz.isAgg3 rfl)) rfl ?_
  refine Mx.p rfl (Pu.move rfl) rfl ?_
  refine Mx.p rfl (Pu.move rfl) rfl ?_
  have he44 : ([b.d0, b.d1, b.d2, b.d3, b.d4, b.d5, b.d6, b.d7, b.d8, b.d9, b.d10, b.d11])[9]? = some b.d9 := rfl
  refine Mx.q rfl (Qt.idxM Tryz.runUnderlying34 Tryz.sizeOf3 rfl (Src.row 1 rfl) rfl (by first | omega | decide | (simp; done) | (simp only [List.length_append, List.length_cons, List.length_nil, List.length_take]; omega)) (by first | omega | decide | (simp; done) | (simp only [List.length_append, List.length_cons, List.length_nil, List.length_take]; omega))) rfl ?_
  refine Mx.q rfl (Qt.ld rfl (Cel.eltM (Src.row 1 rfl) he44) (o := (voff v5 + 9 * 1)) (off := 0) (by omega) (Cut.one Tryz.isAgg3 rfl)) rfl ?_
  refine Mx.call (vs := [.int .i64 a.d9, .int .i64 b.d9]) (caps := []) rfl (by exact Tryz.call32) rfl rfl (r01_Add a.d9 b.d9) (fun _ _ h => h) RoOk.nil rfl ?_
  refine Mx.l rfl (Lo.buildM (s := 1) encZ [Rp.addC a.d9 b.d9] [(0, .int .i64 (Rp.addC a.d9 b.d9))] (by exact Tryz.runUnderlying34) (by exact Tryz.sizeOf3) (by exact Tryz.zeroValue3) rfl rfl rfl (by kernel_rfl) rfl rfl) rfl ?_
  rintro V45 _ rfl
  refine MxK.go [4, 5] [0, 1] [row v4 3 1 (([a.d0, a.d1, a.d2, a.d3, a.d4, a.d5, a.d6, a.d7, a.d8, a.d9, a.d10, a.d11]).map encZ), row v5 3 1 (([b.d0, b.d1, b.d2, b.d3, b.d4, b.d5, b.d6, b.d7, b.d8, b.d9, b.d10, b.d11]).map encZ)] (by decide) rfl (by decide) rfl ?_
  refine Mx.l rfl (Lo.appendM (s := 1) 6 (by exact Tryz.underlying34) (by exact (info3).1) (by exact (info3).2.1) (by exact (info3).2.2.1) (by exact (info3).2.2.2) rfl rfl rfl rfl rfl (Src.row 0 rfl) encZ.one (by first | omega | decide | (simp; done) | (simp only [List.length_append, List.length_cons, List.length_nil, List.length_take]; omega)) (by first | omega | decide | (simp; done) | (simp only [List.length_append, List.length_cons, List.length_nil, List.length_take]; omega))) rfl ?_
  rintro V46 _ rfl
  refine MxK.go [4, 5] [0, 1] [row v4 3 1 (([a.d0, a.d1, a.d2, a.d3, a.d4, a.d5, a.d6, a.d7, a.d8, a.d9, a.d10, a.d11]).map encZ), row v5 3 1 (([b.d0, b.d1, b.d2, b.d3, b.d4, b.d5, b.d6, b.d7, b.d8, b.d9, b.d10, b.d11]).map encZ)] (by decide) rfl (by decide) rfl ?_
  refine Mx.p rfl (Pu.assign rfl) rfl ?_
  refine Mx.nil ?_
  refine J.blk ?_
  refine J.region ?_
  refine O.p (Pu.move rfl) rfl ?_
  refine O.p (Pu.add' rfl rfl (by first | omega | (simp only [List.length_append, List.length_cons, List.length_nil, List.length_set]; omega))) rfl ?_
  refine O.p (Pu.assign rfl) rfl ?_
  refine O.nil ?_
  exact J.lp ⟨10, V46⟩ (show 10 ≤ 12 from (by omega)) (show 12 - 10 < 12 - 9 from (by first | omega | decide | (simp; done) | (simp only [List.length_append, List.length_cons, List.length_nil, List.length_take]; omega))) ⟨rfl, rfl, rfl, rfl, rfl, rfl, (congrArg (fun z => some (Value.int .i64 z)) (by first | rfl | omega : (9 + 1 : Int) = (10 : Int))), trivial⟩ [1, 2, 3, 4, 5, 6] (by decide) rfl
 ·
  show J _ _ [(2, .pointer (some ⟨g1, 0, none⟩)), (3, .pointer (some ⟨g2, 0, none⟩)), (4, .pointer (some ⟨g3, 0, none⟩)), (5, v4), (6, v5), (7, V), (8, .int .i64 10)] [var g1 [.int .i64 a.d0, .int .i64 a.d1, .int .i64 a.d2, .int .i64 a.d3, .int .i64 a.d4, .int .i64 a.d5, .int .i64 a.d6, .int .i64 a.d7, .int .i64 a.d8, .int .i64 a.d9, .int .i64 a.d10, .int .i64 a.d11] 23, var g2 [.int .i64 b.d0, .int .i64 b.d1, .int .i64 b.d2, .int .i64 b.d3, .int .i64 b.d4, .int .i64 b.d5, .int .i64 b.d6, .int .i64 b.d7, .int .i64 b.d8, .int .i64 b.d9, .int .i64 b.d10, .int .i64 b.d11] 23, var g3 [.int .i64 0, .int .i64 0, .int .i64 0, .int .i64 0, .int .i64 0, .int .i64 0, .int .i64 0, .int .i64 0, .int .i64 0, .int .i64 0, .int .i64 0, .int .i64 0] 23, row v4 3 1 (([a.d0, a.d1, a.d2, a.d3, a.d4, a.d5, a.d6, a.d7, a.d8, a.d9, a.d10, a.d11]).map encZ), row v5 3 1 (([b.d0, b.d1, b.d2, b.d3, b.d4, b.d5, b.d6, b.d7, b.d8, b.d9, b.d10, b.d11]).map encZ), row V 3 1 (([Rp.addC a.d0 b.d0, Rp.addC a.d1 b.d1, Rp.addC a.d2 b.d2, Rp.addC a.d3 b.d3, Rp.addC a.d4 b.d4, Rp.addC a.d5 b.d5, Rp.addC a.d6 b.d6, Rp.addC a.d7 b.d7, Rp.addC a.d8 b.d8, Rp.addC a.d9 b.d9, Rp.addC a.d10 b.d10, Rp.addC a.d11 b.d11].take 10).map encZ)]
  refine J.seq ?_
  refine J.seq ?_
  refine J.region ?_
  refine O.p (Pu.move rfl) rfl ?_
  refine O.p (Pu.move rfl) rfl ?_
  refine O.q (Qt.lenM Tryz.runUnderlying34 rfl (Src.row 3 rfl)) rfl ?_
  refine O.p (Pu.lss rfl rfl) rfl ?_
  refine O.nil ?_
  refine J.condT rfl rfl ?_
  refine J.skip ?_
  refine J.seq ?_
  refine J.block ?_
  refine J.drawMix [(0, false), (1, false), (2, false), (3, false), (4, false), (5, false), (6, false), (7, false), (8, false), (9, false), (10, true), (11, true), (12, false)] [3, 4] [row v4 3 1 (([a.d0, a.d1, a.d2, a.d3, a.d4, a.d5, a.d6, a.d7, a.d8, a.d9, a.d10, a.d11]).map encZ), row v5 3 1 (([b.d0, b.d1, b.d2, b.d3, b.d4, b.d5, b.d6, b.d7, b.d8, b.d9, b.d10, b.d11]).map encZ)] Tryz.mixed (by kernel_rfl) (by decide) rfl ?_
  refine Mx.p rfl (Pu.move rfl) rfl ?_
  refine Mx.p rfl (Pu.move rfl) rfl ?_
  refine Mx.p rfl (Pu.move rfl) rfl ?_
  have he47 : ([a.d0, a.d1, a.d2, a.d3, a.d4, a.d5, a.d6, a.d7, a.d8, a.d9, a.d10, a.d11])[10]? = some a.d10 := rfl
  refine Mx.q rfl (Qt.idxM Tryz.runUnderlying34 Tryz.sizeOf3 rfl (Src.row 0 rfl) rfl (by first | omega | decide | (simp; done) | (simp only [List.length_append, List.length_cons, List.length_nil, List.length_take]; omega)) (by first | omega | decide | (simp; done) | (simp only [List.length_append, List.length_cons, List.length_nil, List.length_take]; omega))) rfl ?_
  refine Mx.q rfl (Qt.ld rfl (Cel.eltM (Src.row 0 rfl) he47) (o := (voff v4 + 10 * 1)) (off := 0) (by omega) (Cut.one Tryz.isAgg3 rfl)) rfl ?_
  refine Mx.p rfl (Pu.move rfl) rfl ?_
  refine Mx.p rfl (Pu.move rfl) rfl ?_
  have he48 : ([b.d0, b.d1, b.d2, b.d3, b.d4, b.d5, b.d6, b.d7, b.d8, b.d9, b.d10, b.d11])[10]? = some b.d10 := rfl
  refine Mx.q rfl (Qt.idxM Tryz.runUnderlying34 Tryz.sizeOf3 rfl (Src.row 1 rfl) rfl (by first | omega | decide | (simp; done) | (simp only [List.length_append, List.length_cons, List.length_nil, List.length_take]; omega)) (by first | omega | decide | (simp; done) | (simp only [List.length_append, List.length_cons, List.length_nil, List.length_take]; omega))) rfl ?_
  refine Mx.q rfl (Qt.ld rfl (Cel.eltM (Src.row 1 rfl) he48) (o := (voff v5 + 10 * 1)) (off := 0) (by omega) (Cut.one Tryz.isAgg3 rfl)) rfl ?_
  refine Mx.call (vs := [.int .i64 a.d10, .int .i64 b.d10]) (caps := []) rfl (by exact Tryz.call32) rfl rfl (r01_Add a.d10 b.d10) (fun _ _ h => h) RoOk.nil rfl ?_
  refine Mx.l rfl (Lo.buildM (s := 1) encZ [Rp.addC a.d10 b.d10] [(0, .int .i64 (Rp.addC a.d10 b.d10))] (by exact Tryz.runUnderlying34) (by exact Tryz.sizeOf3) (by exact Tryz.zeroValue3) rfl rfl rfl (by kernel_rfl) rfl rfl) rfl ?_
  rintro V49 _ rfl
  refine MxK.go [4, 5] [0, 1] [row v4 3 1 (([a.d0, a.d1, a.d2, a.d3, a.d4, a.d5, a.d6, a.d7, a.d8, a.d9, a.d10, a.d11]).map encZ), row v5 3 1 (([b.d0, b.d1, b.d2, b.d3, b.d4, b.d5, b.d6, b.d7, b.d8, b.d9, b.d10, b.d11]).map encZ)] (by decide) rfl (by decide) rfl ?_
  refine Mx.l rfl (Lo.appendM (s := 1) 6 (by exact Tryz.underlying34) (by exact (info3).1) (by exact (info3).2.1) (by exact (info3).2.2.1) (by exact (info3).2.2.2) rfl rfl rfl rfl rfl (Src.row 0 rfl) encZ.one (by first | omega | decide | (simp; done) | (simp only [List.length_append, List.length_cons, List.length_nil, List.length_take]; omega)) (by first | omega | decide | (simp; done) | (simp only [List.length_append, List.length_cons, List.length_nil, List.length_take]; omega))) rfl ?_
  rintro V50 _ rfl
  refine MxK.go [4, 5] [0, 1] [row v4 3 1 (([a.d0, a.d1, a.d2, a.d3, a.d4, a.d5, a.d6, a.d7, a.d8, a.d9, a.d10, a.d11]).map encZ), row v5 3 1 (([b.d0, b.d1, b.d2, b.d3, b.d4, b.d5, b.d6, b.d7, b.d8, b.d9, b.d10, b.d11]).map encZ)] (by decide) rfl (by decide) rfl ?_
  refine Mx.p rfl (Pu.assign rfl) rfl ?_
  refine Mx.nil ?_
  refine J.blk ?_
  refine J.region ?_
  refine O.p (Pu.move rfl) rfl ?_
  refine O.p (Pu.add' rfl rfl (by first | omega | (simp only [List.length_append, List.length_cons, List.length_nil, List.length_set]; omega))) rfl ?_
  refine O.p (Pu.assign rfl) rfl ?_
  refine O.nil ?_
  exact J.lp ⟨11, V50⟩ (show 11 ≤ 12 from (by omega)) (show 12 - 11 < 12 - 10 from (by first | omega | decide | (simp; done) | (simp only [List.length_append, List.length_cons, List.length_nil, List.length_take]; omega))) ⟨rfl, rfl, rfl, rfl, rfl, rfl, (congrArg (fun z => some (Value.int .i64 z)) (by first | rfl | omega : (10 + 1 : Int) = (11 : Int))), trivial⟩ [1, 2, 3, 4, 5, 6] (by decide) rfl
 ·
  show J _ _ [(2, .pointer (some ⟨g1, 0, none⟩)), (3, .pointer (some ⟨g2, 0, none⟩)), (4, .pointer (some ⟨g3, 0, none⟩)), (5, v4), (6, v5), (7, V), (8, .int .i64 11)] [var g1 [.int .i64 a.d0, .int .i64 a.d1, .int .i64 a.d2, .int .i64 a.d3, .int .i64 a.d4, .int .i64 a.d5, .int .i64 a.d6, .int .i64 a.d7, .int .i64 a.d8, .int .i64 a.d9, .int .i64 a.d10, .int .i64 a.d11] 23, var g2 [.int .i64 b.d0, .int .i64 b.d1, .int .i64 b.d2, .int .i64 b.d3, .int .i64 b.d4, .int .i64 b.d5, .int .i64 b.d6, .int .i64 b.d7, .int .i64 b.d8, .int .i64 b.d9, .int .i64 b.d10, .int .i64 b.d11] 23, var g3 [.int .i64 0, .int .i64 0, .int .i64 0, .int .i64 0, .int .i64 0, .int .i64 0, .int .i64 0, .int .i64 0, .int .i64 0, .int .i64 0, .int .i64 0, .int .i64 0] 23, row v4 3 1 (([a.d0, a.d1, a.d2, a.d3, a.d4, a.d5, a.d6, a.d7, a.d8, a.d9, a.d10, a.d11]).map encZ), row v5 3 1 (([b.d0, b.d1, b.d2, b.d3, b.d4, b.d5, b.d6, b.d7, b.d8, b.d9, b.d10, b.d11]).map encZ), row V 3 1 (([Rp.addC a.d0 b.d0, Rp.addC a.d1 b.d1, Rp.addC a.d2 b.d2, Rp.addC a.d3 b.d3, Rp.addC a.d4 b.d4, Rp.addC a.d5 b.d5, Rp.addC a.d6 b.d6, Rp.addC a.d7 b.d7, Rp.addC a.d8 b.d8, Rp.addC a.d9 b.d9, Rp.addC a.d10 b.d10, Rp.addC a.d11 b.d11].take 11).map encZ)]
  refine J.seq ?_
  refine J.seq ?_
  refine J.region ?_
  refine O.p (Pu.move rfl) rfl ?_
  refine O.p (Pu.move rfl) rfl ?_
  refine O.q (Qt.lenM Tryz.runUnderlying34 rfl (Src.row 3 rfl)) rfl ?_
  refine O.p (Pu.lss rfl rfl) rfl ?_
  refine O.nil ?_
  refine J.condT rfl rfl ?_
  refine J.skip ?_
  refine J.seq ?_
  refine J.block ?_
  refine J.drawMix [(0, false), (1, false), (2, false), (3, false), (4, false), (5, false), (6, false), (7, false), (8, false), (9, false), (10, true), (11, true), (12, false)] [3, 4] [row v4 3 1 (([a.d0, a.d1, a.d2, a.d3, a.d4, a.d5, a.d6, a.d7, a.d8, a.d9, a.d10, a.d11]).map encZ), row v5 3 1 (([b.d0, b.d1, b.d2, b.d3, b.d4, b.d5, b.d6, b.d7, b.d8, b.d9, b.d10, b.d11]).map encZ)] Tryz.mixed (by kernel_rfl) (by decide) rfl ?_
  refine Mx.p rfl (Pu.move rfl) rfl ?_
  refine Mx.p rfl (Pu.move rfl) rfl ?_
  refine Mx.p rfl (Pu.move rfl) rfl ?_
  have he51 : ([a.d0, a.d1, a.d2, a.d3, a.d4, a.d5, a.d6, a.d7, a.d8, a.d9, a.d10, a.d11])[11]? = some a.d11 := rfl
  refine Mx.q rfl (Qt.idxM Tryz.runUnderlying34 Tryz.sizeOf3 rfl (Src.row 0 rfl) rfl (by first | omega | decide | (simp; done) | (simp only [List.length_append, List.length_cons, List.length_nil, List.length_take]; omega)) (by first | omega | decide | (simp; done) | (simp only [List.length_append, List.length_cons, List.length_nil, List.length_take]; omega))) rfl ?_
  refine Mx.q rfl (Qt.ld rfl (Cel.eltM (Src.row 0 rfl) he51) (o := (voff v4 + 11 * 1)) (off := 0) (by omega) (Cut.one Tryz.isAgg3 rfl)) rfl ?_
  refine Mx.p rfl (Pu.move rfl) rfl ?_
  refine Mx.p rfl (Pu.move rfl) rfl ?_
  have he52 : ([b.d0, b.d1, b.d2, b.d3, b.d4, b.d5, b.d6, b.d7, b.d8, b.d9, b.d10, b.d11])[11]? = some b.d11 := rfl
  refine Mx.q rfl (Qt.idxM Tryz.runUnderlying34 Tryz.sizeOf3 rfl (Src.row 1 rfl) rfl (by first | omega | decide | (simp; done) | (simp only [List.length_append, List.length_cons, List.length_nil, List.length_take]; omega)) (by first | omega | decide | (simp; done) | (simp only [List.length_append, List.length_cons, List.length_nil, List.length_take]; omega))) rfl ?_
  refine Mx.q rfl (Qt.ld rfl (Cel.eltM (Src.row 1 rfl) he52) (o := (voff v5 + 11 * 1)) (off := 0) (by omega) (Cut.one Tryz.isAgg3 rfl)) rfl ?_
  refine Mx.call (vs := [.int .i64 a.d11, .int .i64 b.d11]) (caps := []) rfl (by exact Tryz.call32) rfl rfl (r01_Add a.d11 b.d11) (fun _ _ h => h) RoOk.nil rfl ?_
  refine Mx.l rfl (Lo.buildM (s := 1) encZ [Rp.addC a.d11 b.d11] [(0, .int .i64 (Rp.addC a.d11 b.d11))] (by exact Tryz.runUnderlying34) (by exact Tryz.sizeOf3) (by exact Tryz.zeroValue3) rfl rfl rfl (by kernel_rfl) rfl rfl) rfl ?_
  rintro V53 _ rfl
  refine MxK.go [4, 5] [0, 1] [row v4 3 1 (([a.d0, a.d1, a.d2, a.d3, a.d4, a.d5, a.d6, a.d7, a.d8, a.d9, a.d10, a.d11]).map encZ), row v5 3 1 (([b.d0, b.d1, b.d2, b.d3, b.d4, b.d5, b.d6, b.d7, b.d8, b.d9, b.d10, b.d11]).map encZ)] (by decide) rfl (by decide) rfl ?_
  refine Mx.l rfl (Lo.appendM (s := 1) 6 (by exact Tryz.underlying34) (by exact (info3).1) (by exact (info3).2.1) (by exact (info3).2.2.1) (by exact (info3).2.2.2) rfl rfl rfl rfl rfl (Src.row 0 rfl) encZ.one (by first | omega | decide | (simp; done) | (simp only [List.length_append, List.length_cons, List.length_nil, List.length_take]; omega)) (by first | omega | decide | (simp; done) | (simp only [List.length_append, List.length_cons, List.length_nil, List.length_take]; omega))) rfl ?_
  rintro V54 _ rfl
  refine MxK.go [4, 5] [0, 1] [row v4 3 1 (([a.d0, a.d1, a.d2, a.d3, a.d4, a.d5, a.d6, a.d7, a.d8, a.d9, a.d10, a.d11]).map encZ), row v5 3 1 (([b.d0, b.d1, b.d2, b.d3, b.d4, b.d5, b.d6, b.d7, b.d8, b.d9, b.d10, b.d11]).map encZ)] (by decide) rfl (by decide) rfl ?_
  refine Mx.p rfl (Pu.assign rfl) rfl ?_
  refine Mx.nil ?_
  refine J.blk ?_
  refine J.region ?_
  refine O.p (Pu.move rfl) rfl ?_
  refine O.p (Pu.add' rfl rfl (by first | omega | (simp only [List.length_append, List.length_cons, List.length_nil, List.length_set]; omega))) rfl ?_
  refine O.p (Pu.assign rfl) rfl ?_
  refine O.nil ?_
  exact J.lp ⟨12, V54⟩ (show 12 ≤ 12 from (by omega)) (show 12 - 12 < 12 - 11 from (by first | omega | decide | (simp; done) | (simp only [List.length_append, List.length_cons, List.length_nil, List.length_take]; omega))) ⟨rfl, rfl, rfl, rfl, rfl, rfl, (congrArg (fun z => some (Value.int .i64 z)) (by first | rfl | omega : (11 + 1 : Int) = (12 : Int))), trivial⟩ [1, 2, 3, 4, 5, 6] (by decide) rfl
 ·
  show J _ _ [(2, .pointer (some ⟨g1, 0, none⟩)), (3, .pointer (some ⟨g2, 0, none⟩)), (4, .pointer (some ⟨g3, 0, none⟩)), (5, v4), (6, v5), (7, V), (8, .int .i64 12)] [var g1 [.int .i64 a.d0, .int .i64 a.d1, .int .i64 a.d2, .int .i64 a.d3, .int .i64 a.d4, .int .i64 a.d5, .int .i64 a.d6, .int .i64 a.d7, .int .i64 a.d8, .int .i64 a.d9, .int .i64 a.d10, .int .i64 a.d11] 23, var g2 [.int .i64 b.d0, .int .i64 b.d1, .int .i64 b.d2, .int .i64 b.d3, .int .i64 b.d4, .int .i64 b.d5, .int .i64 b.d6, .int .i64 b.d7, .int .i64 b.d8, .int .i64 b.d9, .int .i64 b.d10, .int .i64 b.d11] 23, var g3 [.int .i64 0, .int .i64 0, .int .i64 0, .int .i64 0, .int .i64 0, .int .i64 0, .int .i64 0, .int .i64 0, .int .i64 0, .int .i64 0, .int .i64 0, .int .i64 0] 23, row v4 3 1 (([a.d0, a.d1, a.d2, a.d3, a.d4, a.d5, a.d6, a.d7, a.d8, a.d9, a.d10, a.d11]).map encZ), row v5 3 1 (([b.d0, b.d1, b.d2, b.d3, b.d4, b.d5, b.d6, b.d7, b.d8, b.d9, b.d10, b.d11]).map encZ), row V 3 1 (([Rp.addC a.d0 b.d0, Rp.addC a.d1 b.d1, Rp.addC a.d2 b.d2, Rp.addC a.d3 b.d3, Rp.addC a.d4 b.d4, Rp.addC a.d5 b.d5, Rp.addC a.d6 b.d6, Rp.addC a.d7 b.d7, Rp.addC a.d8 b.d8, Rp.addC a.d9 b.d9, Rp.addC a.d10 b.d10, Rp.addC a.d11 b.d11].take 12).map encZ)]
  refine J.seq ?_
  refine J.seq ?_
  refine J.region ?_
  refine O.p (Pu.move rfl) rfl ?_
  refine O.p (Pu.move rfl) rfl ?_
  refine O.q (Qt.lenM Tryz.runUnderlying34 rfl (Src.row 3 rfl)) rfl ?_
  refine O.p (Pu.lss rfl rfl) rfl ?_
  refine O.nil ?_
  refine J.condF rfl rfl ?_
  refine J.exit _ rfl ?_
  refine J.seq ?_
  refine J.region ?_
  refine O.p (Pu.move rfl) rfl ?_
  refine O.l (Lo.call [V] (by exact Tryz.call25) rfl (r45_report V (Rp.addC a.d0 b.d0) (Rp.addC a.d1 b.d1) (Rp.addC a.d2 b.d2) (Rp.addC a.d3 b.d3) (Rp.addC a.d4 b.d4) (Rp.addC a.d5 b.d5) (Rp.addC a.d6 b.d6) (Rp.addC a.d7 b.d7) (Rp.addC a.d8 b.d8) (Rp.addC a.d9 b.d9) (Rp.addC a.d10 b.d10) (Rp.addC a.d11 b.d11)) [] [0, 1, 2, 3, 4, 5] (by decide) rfl [var g1 [.int .i64 a.d0, .int .i64 a.d1, .int .i64 a.d2, .int .i64 a.d3, .int .i64 a.d4, .int .i64 a.d5, .int .i64 a.d6, .int .i64 a.d7, .int .i64 a.d8, .int .i64 a.d9, .int .i64 a.d10, .int .i64 a.d11] 23, var g2 [.int .i64 b.d0, .int .i64 b.d1, .int .i64 b.d2, .int .i64 b.d3, .int .i64 b.d4, .int .i64 b.d5, .int .i64 b.d6, .int .i64 b.d7, .int .i64 b.d8, .int .i64 b.d9, .int .i64 b.d10, .int .i64 b.d11] 23, var g3 [.int .i64 0, .int .i64 0, .int .i64 0, .int .i64 0, .int .i64 0, .int .i64 0, .int .i64 0, .int .i64 0, .int .i64 0, .int .i64 0, .int .i64 0, .int .i64 0] 23, row v4 3 1 (([a.d0, a.d1, a.d2, a.d3, a.d4, a.d5, a.d6, a.d7, a.d8, a.d9, a.d10, a.d11]).map encZ), row v5 3 1 (([b.d0, b.d1, b.d2, b.d3, b.d4, b.d5, b.d6, b.d7, b.d8, b.d9, b.d10, b.d11]).map encZ), row V 3 1 (([Rp.addC a.d0 b.d0, Rp.addC a.d1 b.d1, Rp.addC a.d2 b.d2, Rp.addC a.d3 b.d3, Rp.addC a.d4 b.d4, Rp.addC a.d5 b.d5, Rp.addC a.d6 b.d6, Rp.addC a.d7 b.d7, Rp.addC a.d8 b.d8, Rp.addC a.d9 b.d9, Rp.addC a.d10 b.d10, Rp.addC a.d11 b.d11].take 12).map encZ)] rfl (RoOk.of 5 rfl row_rd [] (by decide) rfl RoOk.nil)) rfl ?_
  rintro _ _ ⟨_, ⟨rfl, rfl⟩, rfl⟩
  refine O.l (Lo.alloc [.int .i64 0, .int .i64 0, .int .i64 0, .int .i64 0, .int .i64 0, .int .i64 0, .int .i64 0, .int .i64 0, .int .i64 0, .int .i64 0, .int .i64 0, .int .i64 0] (by exact Tryz.zeroValue23) rfl) rfl ?_
  rintro _ _ ⟨g56, rfl, rfl⟩
  refine O.l0 (Lo.store 0 (vs := [.int .i64 (Rp.addC a.d0 b.d0), .int .i64 (Rp.addC a.d1 b.d1), .int .i64 (Rp.addC a.d2 b.d2), .int .i64 (Rp.addC a.d3 b.d3), .int .i64 (Rp.addC a.d4 b.d4), .int .i64 (Rp.addC a.d5 b.d5), .int .i64 (Rp.addC a.d6 b.d6), .int .i64 (Rp.addC a.d7 b.d7), .int .i64 (Rp.addC a.d8 b.d8), .int .i64 (Rp.addC a.d9 b.d9), .int .i64 (Rp.addC a.d10 b.d10), .int .i64 (Rp.addC a.d11 b.d11)]) [.int .i64 (Rp.addC a.d0 b.d0), .int .i64 (Rp.addC a.d1 b.d1), .int .i64 (Rp.addC a.d2 b.d2), .int .i64 (Rp.addC a.d3 b.d3), .int .i64 (Rp.addC a.d4 b.d4), .int .i64 (Rp.addC a.d5 b.d5), .int .i64 (Rp.addC a.d6 b.d6), .int .i64 (Rp.addC a.d7 b.d7), .int .i64 (Rp.addC a.d8 b.d8), .int .i64 (Rp.addC a.d9 b.d9), .int .i64 (Rp.addC a.d10 b.d10), .int .i64 (Rp.addC a.d11 b.d11)] rfl rfl rfl (by exact Tryz.sizeOf23) rfl rfl rfl rfl rfl) ?_
  rintro _ _ rfl
  refine O.nil ?_
  refine J.seq ?_
  refine J.drawHead 8 Tryz.mixed (by kernel_rfl) ?_
  refine Hd.p (Pu.fieldAddr (off' := 10) Tryz.runUnderlying23 rfl Tryz.sizeOf3 rfl rfl rfl) rfl ?_
  refine Hd.q (Qt.ld rfl (Cel.var 1 rfl) (o := 0) (off := 10) rfl (Cut.one Tryz.isAgg3 rfl)) rfl ?_
  refine Hd.call (vs := [.int .i64 a.d10]) (caps := []) (by exact Tryz.call33) rfl rfl (r01_Count a.d10) (fun _ _ h => h) RoOk.nil rfl ?_
  refine Hd.p (Pu.fieldAddr (off' := 10) Tryz.runUnderlying23 rfl Tryz.sizeOf3 rfl rfl rfl) rfl ?_
  refine Hd.q (Qt.ld rfl (Cel.var 2 rfl) (o := 0) (off := 10) rfl (Cut.one Tryz.isAgg3 rfl)) rfl ?_
  refine Hd.call (vs := [.int .i64 b.d10]) (caps := []) (by exact Tryz.call33) rfl rfl (r01_Count b.d10) (fun _ _ h => h) RoOk.nil rfl ?_
  refine Hd.p (Pu.max rfl rfl) rfl ?_
  refine Hd.p (Pu.fieldAddr (off' := 10) Tryz.runUnderlying23 rfl Tryz.sizeOf3 rfl rfl rfl) rfl ?_
  refine Hd.nil ?_
  refine O.l0 (Lo.store 0 (vs := [.int .i64 (if (Rp.keep b.d10 2147483647) > (Rp.keep a.d10 2147483647) then (Rp.keep b.d10 2147483647) else (Rp.keep a.d10 2147483647))]) [.int .i64 (Rp.addC a.d0 b.d0), .int .i64 (Rp.addC a.d1 b.d1), .int .i64 (Rp.addC a.d2 b.d2), .int .i64 (Rp.addC a.d3 b.d3), .int .i64 (Rp.addC a.d4 b.d4), .int .i64 (Rp.addC a.d5 b.d5), .int .i64 (Rp.addC a.d6 b.d6), .int .i64 (Rp.addC a.d7 b.d7), .int .i64 (Rp.addC a.d8 b.d8), .int .i64 (Rp.addC a.d9 b.d9), .int .i64 (if (Rp.keep b.d10 2147483647) > (Rp.keep a.d10 2147483647) then (Rp.keep b.d10 2147483647) else (Rp.keep a.d10 2147483647)), .int .i64 (Rp.addC a.d11 b.d11)] rfl rfl rfl (by exact Tryz.sizeOf3) rfl rfl rfl rfl rfl) ?_
  rintro _ _ rfl
  refine O.nil ?_
  refine J.seq ?_
  refine J.region ?_
  refine O.p (Pu.fieldAddr (off' := 4) Tryz.runUnderlying23 rfl Tryz.sizeOf3 rfl rfl rfl) rfl ?_
  refine O.q (Qt.ld rfl (Cel.var 0 rfl) (o := 0) (off := 4) rfl (Cut.one Tryz.isAgg3 rfl)) rfl ?_
  refine O.p (Pu.fieldAddr (off' := 0) Tryz.runUnderlying23 rfl Tryz.sizeOf3 rfl rfl rfl) rfl ?_
  refine O.q (Qt.ld rfl (Cel.var 0 rfl) (o := 0) (off := 0) rfl (Cut.one Tryz.isAgg3 rfl)) rfl ?_
  refine O.l (Lo.call [.int .i64 (Rp.addC a.d4 b.d4), .int .i64 (Rp.addC a.d0 b.d0)] (by exact Tryz.call34) rfl (r45_share (Rp.addC a.d4 b.d4) (Rp.addC a.d0 b.d0)) [] [0, 1, 2, 3, 4, 5, 6] (by decide) rfl [var g56 [.int .i64 (Rp.addC a.d0 b.d0), .int .i64 (Rp.addC a.d1 b.d1), .int .i64 (Rp.addC a.d2 b.d2), .int .i64 (Rp.addC a.d3 b.d3), .int .i64 (Rp.addC a.d4 b.d4), .int .i64 (Rp.addC a.d5 b.d5), .int .i64 (Rp.addC a.d6 b.d6), .int .i64 (Rp.addC a.d7 b.d7), .int .i64 (Rp.addC a.d8 b.d8), .int .i64 (Rp.addC a.d9 b.d9), .int .i64 (if (Rp.keep b.d10 2147483647) > (Rp.keep a.d10 2147483647) then (Rp.keep b.d10 2147483647) else (Rp.keep a.d10 2147483647)), .int .i64 (Rp.addC a.d11 b.d11)] 23, var g1 [.int .i64 a.d0, .int .i64 a.d1, .int .i64 a.d2, .int .i64 a.d3, .int .i64 a.d4, .int .i64 a.d5, .int .i64 a.d6, .int .i64 a.d7, .int .i64 a.d8, .int .i64 a.d9, .int .i64 a.d10, .int .i64 a.d11] 23, var g2 [.int .i64 b.d0, .int .i64 b.d1, .int .i64 b.d2, .int .i64 b.d3, .int .i64 b.d4, .int .i64 b.d5, .int .i64 b.d6, .int .i64 b.d7, .int .i64 b.d8, .int .i64 b.d9, .int .i64 b.d10, .int .i64 b.d11] 23, var g3 [.int .i64 0, .int .i64 0, .int .i64 0, .int .i64 0, .int .i64 0, .int .i64 0, .int .i64 0, .int .i64 0, .int .i64 0, .int .i64 0, .int .i64 0, .int .i64 0] 23, row v4 3 1 (([a.d0, a.d1, a.d2, a.d3, a.d4, a.d5, a.d6, a.d7, a.d8, a.d9, a.d10, a.d11]).map encZ), row v5 3 1 (([b.d0, b.d1, b.d2, b.d3, b.d4, b.d5, b.d6, b.d7, b.d8, b.d9, b.d10, b.d11]).map encZ), row V 3 1 (([Rp.addC a.d0 b.d0, Rp.addC a.d1 b.d1, Rp.addC a.d2 b.d2, Rp.addC a.d3 b.d3, Rp.addC a.d4 b.d4, Rp.addC a.d5 b.d5, Rp.addC a.d6 b.d6, Rp.addC a.d7 b.d7, Rp.addC a.d8 b.d8, Rp.addC a.d9 b.d9, Rp.addC a.d10 b.d10, Rp.addC a.d11 b.d11].take 12).map encZ)] rfl RoOk.nil) rfl ?_
  rintro _ _ ⟨_, ⟨rfl, rfl⟩, rfl⟩
  refine O.p (Pu.fieldAddr (off' := 11) Tryz.runUnderlying23 rfl Tryz.sizeOf3 rfl rfl rfl) rfl ?_
  refine O.l0 (Lo.store 0 (vs := [.int .i64 (Rp.share (Rp.addC a.d4 b.d4) (Rp.addC a.d0 b.d0))]) [.int .i64 (Rp.addC a.d0 b.d0), .int .i64 (Rp.addC a.d1 b.d1), .int .i64 (Rp.addC a.d2 b.d2), .int .i64 (Rp.addC a.d3 b.d3), .int .i64 (Rp.addC a.d4 b.d4), .int .i64 (Rp.addC a.d5 b.d5), .int .i64 (Rp.addC a.d6 b.d6), .int .i64 (Rp.addC a.d7 b.d7), .int .i64 (Rp.addC a.d8 b.d8), .int .i64 (Rp.addC a.d9 b.d9), .int .i64 (if (Rp.keep b.d10 2147483647) > (Rp.keep a.d10 2147483647) then (Rp.keep b.d10 2147483647) else (Rp.keep a.d10 2147483647)), .int .i64 (Rp.share (Rp.addC a.d4 b.d4) (Rp.addC a.d0 b.d0))] rfl rfl rfl (by exact Tryz.sizeOf3) rfl rfl rfl rfl rfl) ?_
  rintro _ _ rfl
  refine O.nil ?_
  refine J.seq ?_
  refine J.region ?_
  refine O.q (Qt.ld rfl (Cel.var 0 rfl) (o := 0) (off := 0) rfl (Cut.agg [.int .i64 (Rp.addC a.d0 b.d0), .int .i64 (Rp.addC a.d1 b.d1), .int .i64 (Rp.addC a.d2 b.d2), .int .i64 (Rp.addC a.d3 b.d3), .int .i64 (Rp.addC a.d4 b.d4), .int .i64 (Rp.addC a.d5 b.d5), .int .i64 (Rp.addC a.d6 b.d6), .int .i64 (Rp.addC a.d7 b.d7), .int .i64 (Rp.addC a.d8 b.d8), .int .i64 (Rp.addC a.d9 b.d9), .int .i64 (if (Rp.keep b.d10 2147483647) > (Rp.keep a.d10 2147483647) then (Rp.keep b.d10 2147483647) else (Rp.keep a.d10 2147483647)), .int .i64 (Rp.share (Rp.addC a.d4 b.d4) (Rp.addC a.d0 b.d0))] Tryz.isAgg23 Tryz.sizeOf23 rfl rfl)) rfl ?_
  refine O.l0 (Lo.store 3 (vs := [.int .i64 (Rp.addC a.d0 b.d0), .int .i64 (Rp.addC a.d1 b.d1), .int .i64 (Rp.addC a.d2 b.d2), .int .i64 (Rp.addC a.d3 b.d3), .int .i64 (Rp.addC a.d4 b.d4), .int .i64 (Rp.addC a.d5 b.d5), .int .i64 (Rp.addC a.d6 b.d6), .int .i64 (Rp.addC a.d7 b.d7), .int .i64 (Rp.addC a.d8 b.d8), .int .i64 (Rp.addC a.d9 b.d9), .int .i64 (if (Rp.keep b.d10 2147483647) > (Rp.keep a.d10 2147483647) then (Rp.keep b.d10 2147483647) else (Rp.keep a.d10 2147483647)), .int .i64 (Rp.share (Rp.addC a.d4 b.d4) (Rp.addC a.d0 b.d0))]) [.int .i64 (Rp.addC a.d0 b.d0), .int .i64 (Rp.addC a.d1 b.d1), .int .i64 (Rp.addC a.d2 b.d2), .int .i64 (Rp.addC a.d3 b.d3), .int .i64 (Rp.addC a.d4 b.d4), .int .i64 (Rp.addC a.d5 b.d5), .int .i64 (Rp.addC a.d6 b.d6), .int .i64 (Rp.addC a.d7 b.d7), .int .i64 (Rp.addC a.d8 b.d8), .int .i64 (Rp.addC a.d9 b.d9), .int .i64 (if (Rp.keep b.d10 2147483647) > (Rp.keep a.d10 2147483647) then (Rp.keep b.d10 2147483647) else (Rp.keep a.d10 2147483647)), .int .i64 (Rp.share (Rp.addC a.d4 b.d4) (Rp.addC a.d0 b.d0))] rfl rfl rfl (by exact Tryz.sizeOf23) rfl rfl rfl rfl rfl) ?_
  rintro _ _ rfl
  refine O.nil ?_
  exact J.ret (Fin.ret (rs := [.cell 4 23]) rfl [_] ⟨⟨_, _, 0, 0, _, rfl, (Cel.var 3 rfl), rfl, (Cut.agg [.int .i64 (Rp.addC a.d0 b.d0), .int .i64 (Rp.addC a.d1 b.d1), .int .i64 (Rp.addC a.d2 b.d2), .int .i64 (Rp.addC a.d3 b.d3), .int .i64 (Rp.addC a.d4 b.d4), .int .i64 (Rp.addC a.d5 b.d5), .int .i64 (Rp.addC a.d6 b.d6), .int .i64 (Rp.addC a.d7 b.d7), .int .i64 (Rp.addC a.d8 b.d8), .int .i64 (Rp.addC a.d9 b.d9), .int .i64 (if (Rp.keep b.d10 2147483647) > (Rp.keep a.d10 2147483647) then (Rp.keep b.d10 2147483647) else (Rp.keep a.d10 2147483647)), .int .i64 (Rp.share (Rp.addC a.d4 b.d4) (Rp.addC a.d0 b.d0))] Tryz.isAgg23 Tryz.sizeOf23 rfl rfl)⟩, trivial⟩ [] (by decide) [] rfl ⟨(by simp only [vOf, Rp.keep_max]; rfl), rfl⟩)

set_option maxRecDepth 100000 in
set_option maxHeartbeats 1000000 in
theorem r45_Right (r : Rep) : Tri Tryz.prog 13 #[.agg #[.int .i64 r.d0, .int .i64 r.d1, .int .i64 r.d2, .int .i64 r.d3, .int .i64 r.d4, .int .i64 r.d5, .int .i64 r.d6, .int .i64 r.d7, .int .i64 r.d8, .int .i64 r.d9, .int .i64 r.d10, .int .i64 r.d11]] [] [] (fun v L' => v = .bool (Rp.right r) ∧ L' = []) := by
 refine Tri.enter (args := [.agg #[.int .i64 r.d0, .int .i64 r.d1, .int .i64 r.d2, .int .i64 r.d3, .int .i64 r.d4, .int .i64 r.d5, .int .i64 r.d6, .int .i64 r.d7, .int .i64 r.d8, .int .i64 r.d9, .int .i64 r.d10, .int .i64 r.d11]]) (body := _) 63 Tryz.func13 rfl Tryz.ntmps13 rfl ?_
 intro w0
 refine J.seq ?_
 refine J.region ?_
 refine O.l (Lo.box [.int .i64 r.d0, .int .i64 r.d1, .int .i64 r.d2, .int .i64 r.d3, .int .i64 r.d4, .int .i64 r.d5, .int .i64 r.d6, .int .i64 r.d7, .int .i64 r.d8, .int .i64 r.d9, .int .i64 r.d10, .int .i64 r.d11] rfl rfl) rfl ?_
 rintro _ _ ⟨g1, rfl, rfl⟩
 refine O.p (Pu.assign rfl) rfl ?_
 refine O.nil ?_
 refine J.seq ?_
 refine J.region ?_
 refine O.q (Qt.ld rfl (Cel.var 0 rfl) (o := 0) (off := 0) rfl (Cut.agg [.int .i64 r.d0, .int .i64 r.d1, .int .i64 r.d2, .int .i64 r.d3, .int .i64 r.d4, .int .i64 r.d5, .int .i64 r.d6, .int .i64 r.d7, .int .i64 r.d8, .int .i64 r.d9, .int .i64 r.d10, .int .i64 r.d11] Tryz.isAgg23 Tryz.sizeOf23 rfl rfl)) rfl ?_
 refine O.l (Lo.call [.agg #[.int .i64 r.d0, .int .i64 r.d1, .int .i64 r.d2, .int .i64 r.d3, .int .i64 r.d4, .int .i64 r.d5, .int .i64 r.d6, .int .i64 r.d7, .int .i64 r.d8, .int .i64 r.d9, .int .i64 r.d10, .int .i64 r.d11]] (by exact Tryz.call28) rfl (r45_numbers r) [] [0] (by decide) rfl [var g1 [.int .i64 r.d0, .int .i64 r.d1, .int .i64 r.d2, .int .i64 r.d3, .int .i64 r.d4, .int .i64 r.d5, .int .i64 r.d6, .int .i64 r.d7, .int .i64 r.d8, .int .i64 r.d9, .int .i64 r.d10, .int .i64 r.d11] 23] rfl RoOk.nil) rfl ?_
 rintro v2 _ ⟨_, rfl, rfl⟩
 refine O.p (Pu.assign rfl) rfl ?_
 refine O.nil ?_
 refine J.seq ?_
 refine J.seq ?_
 refine J.region ?_
 refine O.p (Pu.assign rfl) rfl ?_
 refine O.nil ?_
 refine J.block ?_
 refine J.loop (X := Nat) (fun ξ => ξ ≤ 12 ∧ (((Rp.nums r).take ξ).all fun n => decide (0 ≤ n)) = true) (fun ξ => [(1, .pointer (some ⟨g1, 0, none⟩)), (3, v2), (4, .int .i64 (ξ : Int))]) (fun ξ => [var g1 [.int .i64 r.d0, .int .i64 r.d1, .int .i64 r.d2, .int .i64 r.d3, .int .i64 r.d4, .int .i64 r.d5, .int .i64 r.d6, .int .i64 r.d7, .int .i64 r.d8, .int .i64 r.d9, .int .i64 r.d10, .int .i64 r.d11] 23, row v2 3 1 (([r.d0, r.d1, r.d2, r.d3, r.d4, r.d5, r.d6, r.d7, r.d8, r.d9, r.d10, r.d11]).map encZ)]) (fun ξ => 12 - ξ) 0 (show 0 ≤ 12 ∧ (((Rp.nums r).take 0).all fun n => decide (0 ≤ n)) = true from ⟨by omega, rfl⟩) ⟨rfl, rfl, (congrArg (fun z => some (Value.int .i64 z)) (by first | rfl | omega : (0 : Int) = (0 : Int))), trivial⟩ [1, 0] (by decide) rfl ?_
 rintro k hq3
 obtain ⟨hk, hst⟩ : k ≤ 12 ∧ (((Rp.nums r).take k).all fun n => decide (0 ≤ n)) = true := hq3
 show J _ _ [(1, .pointer (some ⟨g1, 0, none⟩)), (3, v2), (4, .int .i64 (k : Int))] [var g1 [.int .i64 r.d0, .int .i64 r.d1, .int .i64 r.d2, .int .i64 r.d3, .int .i64 r.d4, .int .i64 r.d5, .int .i64 r.d6, .int .i64 r.d7, .int .i64 r.d8, .int .i64 r.d9, .int .i64 r.d10, .int .i64 r.d11] 23, row v2 3 1 (([r.d0, r.d1, r.d2, r.d3, r.d4, r.d5, r.d6, r.d7, r.d8, r.d9, r.d10, r.d11]).map encZ)]
 obtain rfl | rfl | rfl | rfl | rfl | rfl | rfl | rfl | rfl | rfl | rfl | rfl | rfl : k = 0 ∨ k = 1 ∨ k = 2 ∨ k = 3 ∨ k = 4 ∨ k = 5 ∨ k = 6 ∨ k = 7 ∨ k = 8 ∨ k = 9 ∨ k = 10 ∨ k = 11 ∨ k = 12 := by omega
 ·
  show J _ _ [(1, .pointer (some ⟨g1, 0, none⟩)), (3, v2), (4, .int .i64 0)] [var g1 [.int .i64 r.d0, .int .i64 r.d1, .int .i64 r.d2, .int .i64 r.d3, .int .i64 r.d4, .int .i64 r.d5, .int .i64 r.d6, .int .i64 r.d7, .int .i64 r.d8, .int .i64 r.d9, .int .i64 r.d10, .int .i64 r.d11] 23, row v2 3 1 (([r.d0, r.d1, r.d2, r.d3, r.d4, r.d5, r.d6, r.d7, r.d8, r.d9, r.d10, r.d11]).map encZ)]
  refine J.seq ?_
  refine J.seq ?_
  refine J.region ?_
  refine O.p (Pu.move rfl) rfl ?_
  refine O.p (Pu.move rfl) rfl ?_
  refine O.q (Qt.lenM Tryz.runUnderlying34 rfl (Src.row 1 rfl)) rfl ?_
  refine O.p (Pu.lss rfl rfl) rfl ?_
  refine O.nil ?_
  refine J.condT rfl rfl ?_
  refine J.skip ?_
  refine J.seq ?_
  refine J.block ?_
  refine J.seq ?_
  refine J.region ?_
  refine O.p (Pu.move rfl) rfl ?_
  refine O.p (Pu.move rfl) rfl ?_
  have he4 : ([r.d0, r.d1, r.d2, r.d3, r.d4, r.d5, r.d6, r.d7, r.d8, r.d9, r.d10, r.d11])[0]? = some r.d0 := rfl
  refine O.q (Qt.idxM Tryz.runUnderlying34 Tryz.sizeOf3 rfl (Src.row 1 rfl) rfl (by first | omega | decide | (simp; done) | (simp only [List.length_append, List.length_cons, List.length_nil, List.length_take]; omega)) (by first | omega | decide | (simp; done) | (simp only [List.length_append, List.length_cons, List.length_nil, List.length_take]; omega))) rfl ?_
  refine O.q (Qt.ld rfl (Cel.eltM (Src.row 1 rfl) he4) (o := (voff v2 + 0 * 1)) (off := 0) (by omega) (Cut.one Tryz.isAgg3 rfl)) rfl ?_
  refine O.p (Pu.lss rfl rfl) rfl ?_
  refine O.nil ?_
  refine J.cond rfl (fun h5 => ?_) (fun h5 => ?_)
  ·
   have p6 := of_decide_eq_true h5
   refine J.seq ?_
   refine J.region ?_
   refine O.p (Pu.assign rfl) rfl ?_
   refine O.nil ?_
   exact J.ret (Fin.ret (rs := [.tmp 2]) rfl [_] ⟨rfl, trivial⟩ [] (by decide) [] rfl ⟨(by rw [Rp.right_neg (r := r) (k := 0) rfl ‹_›]; rfl), rfl⟩)
  ·
   have p7 := of_decide_eq_false h5
   refine J.skip ?_
   refine J.blk ?_
   refine J.region ?_
   refine O.p (Pu.move rfl) rfl ?_
   refine O.p (Pu.add' rfl rfl (by first | omega | (simp only [List.length_append, List.length_cons, List.length_nil, List.length_set]; omega))) rfl ?_
   refine O.p (Pu.assign rfl) rfl ?_
   refine O.nil ?_
   exact J.lp 1 (show 1 ≤ 12 ∧ (((Rp.nums r).take 1).all fun n => decide (0 ≤ n)) = true from ⟨by omega, Rp.all_next hst rfl (decide_eq_true (by omega))⟩) (show 12 - 1 < 12 - 0 from (by first | omega | decide | (simp; done) | (simp only [List.length_append, List.length_cons, List.length_nil, List.length_take]; omega))) ⟨rfl, rfl, (congrArg (fun z => some (Value.int .i64 z)) (by first | rfl | omega : (0 + 1 : Int) = (1 : Int))), trivial⟩ [0, 1] (by decide) rfl
 ·
  show J _ _ [(1, .pointer (some ⟨g1, 0, none⟩)), (3, v2), (4, .int .i64 1)] [var g1 [.int .i64 r.d0, .int .i64 r.d1, .int .i64 r.d2, .int .i64 r.d3, .int .i64 r.d4, .int .i64 r.d5, .int .i64 r.d6, .int .i64 r.d7, .int .i64 r.d8, .int .i64 r.d9, .int .i64 r.d10, .int .i64 r.d11] 23, row v2 3 1 (([r.d0, r.d1, r.d2, r.d3, r.d4, r.d5, r.d6, r.d7, r.d8, r.d9, r.d10, r.d11]).map encZ)]
  refine J.seq ?_
  refine J.seq ?_
  refine J.region ?_
  refine O.p (Pu.move rfl) rfl ?_
  refine O.p (Pu.move rfl) rfl ?_
  refine O.q (Qt.lenM Tryz.runUnderlying34 rfl (Src.row 1 rfl)) rfl ?_
  refine O.p (Pu.lss rfl rfl) rfl ?_
  refine O.nil ?_
  refine J.condT rfl rfl ?_
  refine J.skip ?_
  refine J.seq ?_
  refine J.block ?_
  refine J.seq ?_
  refine J.region ?_
  refine O.p (Pu.move rfl) rfl ?_
  refine O.p (Pu.move rfl) rfl ?_
  have he8 : ([r.d0, r.d1, r.d2, r.d3, r.d4, r.d5, r.d6, r.d7, r.d8, r.d9, r.d10, r.d11])[1]? = some r.d1 := rfl
  refine O.q (Qt.idxM Tryz.runUnderlying34 Tryz.sizeOf3 rfl (Src.row 1 rfl) rfl (by first | omega | decide | (simp; done) | (simp only [List.length_append, List.length_cons, List.length_nil, List.length_take]; omega)) (by first | omega | decide | (simp; done) | (simp only [List.length_append, List.length_cons, List.length_nil, List.length_take]; omega))) rfl ?_
  refine O.q (Qt.ld rfl (Cel.eltM (Src.row 1 rfl) he8) (o := (voff v2 + 1 * 1)) (off := 0) (by omega) (Cut.one Tryz.isAgg3 rfl)) rfl ?_
  refine O.p (Pu.lss rfl rfl) rfl ?_
  refine O.nil ?_
  refine J.cond rfl (fun h9 => ?_) (fun h9 => ?_)
  ·
   have p10 := of_decide_eq_true h9
   refine J.seq ?_
   refine J.region ?_
   refine O.p (Pu.assign rfl) rfl ?_
   refine O.nil ?_
   exact J.ret (Fin.ret (rs := [.tmp 2]) rfl [_] ⟨rfl, trivial⟩ [] (by decide) [] rfl ⟨(by rw [Rp.right_neg (r := r) (k := 1) rfl ‹_›]; rfl), rfl⟩)
  ·
   have p11 := of_decide_eq_false h9
   refine J.skip ?_
   refine J.blk ?_
   refine J.region ?_
   refine O.p (Pu.move rfl) rfl ?_
   refine O.p (Pu.add' rfl rfl (by first | omega | (simp only [List.length_append, List.length_cons, List.length_nil, List.length_set]; omega))) rfl ?_
   refine O.p (Pu.assign rfl) rfl ?_
   refine O.nil ?_
   exact J.lp 2 (show 2 ≤ 12 ∧ (((Rp.nums r).take 2).all fun n => decide (0 ≤ n)) = true from ⟨by omega, Rp.all_next hst rfl (decide_eq_true (by omega))⟩) (show 12 - 2 < 12 - 1 from (by first | omega | decide | (simp; done) | (simp only [List.length_append, List.length_cons, List.length_nil, List.length_take]; omega))) ⟨rfl, rfl, (congrArg (fun z => some (Value.int .i64 z)) (by first | rfl | omega : (1 + 1 : Int) = (2 : Int))), trivial⟩ [0, 1] (by decide) rfl
 ·
  show J _ _ [(1, .pointer (some ⟨g1, 0, none⟩)), (3, v2), (4, .int .i64 2)] [var g1 [.int .i64 r.d0, .int .i64 r.d1, .int .i64 r.d2, .int .i64 r.d3, .int .i64 r.d4, .int .i64 r.d5, .int .i64 r.d6, .int .i64 r.d7, .int .i64 r.d8, .int .i64 r.d9, .int .i64 r.d10, .int .i64 r.d11] 23, row v2 3 1 (([r.d0, r.d1, r.d2, r.d3, r.d4, r.d5, r.d6, r.d7, r.d8, r.d9, r.d10, r.d11]).map encZ)]
  refine J.seq ?_
  refine J.seq ?_
  refine J.region ?_
  refine O.p (Pu.move rfl) rfl ?_
  refine O.p (Pu.move rfl) rfl ?_
  refine O.q (Qt.lenM Tryz.runUnderlying34 rfl (Src.row 1 rfl)) rfl ?_
  refine O.p (Pu.lss rfl rfl) rfl ?_
  refine O.nil ?_
  refine J.condT rfl rfl ?_
  refine J.skip ?_
  refine J.seq ?_
  refine J.block ?_
  refine J.seq ?_
  refine J.region ?_
  refine O.p (Pu.move rfl) rfl ?_
  refine O.p (Pu.move rfl) rfl ?_
  have he12 : ([r.d0, r.d1, r.d2, r.d3, r.d4, r.d5, r.d6, r.d7, r.d8, r.d9, r.d10, r.d11])[2]? = some r.d2 := rfl
  refine O.q (Qt.idxM Tryz.runUnderlying34 Tryz.sizeOf3 rfl (Src.row 1 rfl) rfl (by first | omega | decide | (simp; done) | (simp only [List.length_append, List.length_cons, List.length_nil, List.length_take]; omega)) (by first | omega | decide | (simp; done) | (simp only [List.length_append, List.length_cons, List.length_nil, List.length_take]; omega))) rfl ?_
  refine O.q (Qt.ld rfl (Cel.eltM (Src.row 1 rfl) he12) (o := (voff v2 + 2 * 1)) (off := 0) (by omega) (Cut.one Tryz.isAgg3 rfl)) rfl ?_
  refine O.p (Pu.lss rfl rfl) rfl ?_
  refine O.nil ?_
  refine J.cond rfl (fun h13 => ?_) (fun h13 => ?_)
  ·
   have p14 := of_decide_eq_true h13
   refine J.seq ?_
   refine J.region ?_
   refine O.p (Pu.assign rfl) rfl ?_
   refine O.nil ?_
   exact J.ret (Fin.ret (rs := [.tmp 2]) rfl [_] ⟨rfl, trivial⟩ [] (by decide) [] rfl ⟨(by rw [Rp.right_neg (r := r) (k := 2) rfl ‹_›]; rfl), rfl⟩)
  ·
   have p15 := of_decide_eq_false h13
   refine J.skip ?_
   refine J.blk ?_
   refine J.region ?_
   refine O.p (Pu.move rfl) rfl ?_
   refine O.p (Pu.add' rfl rfl (by first | omega | (simp only [List.length_append, List.length_cons, List.length_nil, List.length_set]; omega))) rfl ?_
   refine O.p (Pu.assign rfl) rfl ?_
   refine O.nil ?_
   exact J.lp 3 (show 3 ≤ 12 ∧ (((Rp.nums r).take 3).all fun n => decide (0 ≤ n)) = true from ⟨by omega, Rp.all_next hst rfl (decide_eq_true (by omega))⟩) (show 12 - 3 < 12 - 2 from (by first | omega | decide | (simp; done) | (simp only [List.length_append, List.length_cons, List.length_nil, List.length_take]; omega))) ⟨rfl, rfl, (congrArg (fun z => some (Value.int .i64 z)) (by first | rfl | omega : (2 + 1 : Int) = (3 : Int))), trivial⟩ [0, 1] (by decide) rfl
 ·
  show J _ _ [(1, .pointer (some ⟨g1, 0, none⟩)), (3, v2), (4, .int .i64 3)] [var g1 [.int .i64 r.d0, .int .i64 r.d1, .int .i64 r.d2, .int .i64 r.d3, .int .i64 r.d4, .int .i64 r.d5, .int .i64 r.d6, .int .i64 r.d7, .int .i64 r.d8, .int .i64 r.d9, .int .i64 r.d10, .int .i64 r.d11] 23, row v2 3 1 (([r.d0, r.d1, r.d2, r.d3, r.d4, r.d5, r.d6, r.d7, r.d8, r.d9, r.d10, r.d11]).map encZ)]
  refine J.seq ?_
  refine J.seq ?_
  refine J.region ?_
  refine O.p (Pu.move rfl) rfl ?_
  refine O.p (Pu.move rfl) rfl ?_
  refine O.q (Qt.lenM Tryz.runUnderlying34 rfl (Src.row 1 rfl)) rfl ?_
  refine O.p (Pu.lss rfl rfl) rfl ?_
  refine O.nil ?_
  refine J.condT rfl rfl ?_
  refine J.skip ?_
  refine J.seq ?_
  refine J.block ?_
  refine J.seq ?_
  refine J.region ?_
  refine O.p (Pu.move rfl) rfl ?_
  refine O.p (Pu.move rfl) rfl ?_
  have he16 : ([r.d0, r.d1, r.d2, r.d3, r.d4, r.d5, r.d6, r.d7, r.d8, r.d9, r.d10, r.d11])[3]? = some r.d3 := rfl
  refine O.q (Qt.idxM Tryz.runUnderlying34 Tryz.sizeOf3 rfl (Src.row 1 rfl) rfl (by first | omega | decide | (simp; done) | (simp only [List.length_append, List.length_cons, List.length_nil, List.length_take]; omega)) (by first | omega | decide | (simp; done) | (simp only [List.length_append, List.length_cons, List.length_nil, List.length_take]; omega))) rfl ?_
  refine O.q (Qt.ld rfl (Cel.eltM (Src.row 1 rfl) he16) (o := (voff v2 + 3 * 1)) (off := 0) (by omega) (Cut.one Tryz.isAgg3 rfl)) rfl ?_
  refine O.p (Pu.lss rfl rfl) rfl ?_
  refine O.nil ?_
  refine J.cond rfl (fun h17 => ?_) (fun h17 => ?_)
  ·
   have p18 := of_decide_eq_true h17
   refine J.seq ?_
   refine J.region ?_
   refine O.p (Pu.assign rfl) rfl ?_
   refine O.nil ?_
   exact J.ret (Fin.ret (rs := [.tmp 2]) rfl [_] ⟨rfl, trivial⟩ [] (by decide) [] rfl ⟨(by rw [Rp.right_neg (r := r) (k := 3) rfl ‹_›]; rfl), rfl⟩)
  ·
   have p19 := of_decide_eq_false h17
   refine J.skip ?_
   refine J.blk ?_
   refine J.region ?_
   refine O.p (Pu.move rfl) rfl ?_
   refine O.p (Pu.add' rfl rfl (by first | omega | (simp only [List.length_append, List.length_cons, List.length_nil, List.length_set]; omega))) rfl ?_
   refine O.p (Pu.assign rfl) rfl ?_
   refine O.nil ?_
   exact J.lp 4 (show 4 ≤ 12 ∧ (((Rp.nums r).take 4).all fun n => decide (0 ≤ n)) = true from ⟨by omega, Rp.all_next hst rfl (decide_eq_true (by omega))⟩) (show 12 - 4 < 12 - 3 from (by first | omega | decide | (simp; done) | (simp only [List.length_append, List.length_cons, List.length_nil, List.length_take]; omega))) ⟨rfl, rfl, (congrArg (fun z => some (Value.int .i64 z)) (by first | rfl | omega : (3 + 1 : Int) = (4 : Int))), trivial⟩ [0, 1] (by decide) rfl
 ·
  show J _ _ [(1, .pointer (some ⟨g1, 0, none⟩)), (3, v2), (4, .int .i64 4)] [var g1 [.int .i64 r.d0, .int .i64 r.d1, .int .i64 r.d2, .int .i64 r.d3, .int .i64 r.d4, .int .i64 r.d5, .int .i64 r.d6, .int .i64 r.d7, .int .i64 r.d8, .int .i64 r.d9, .int .i64 r.d10, .int .i64 r.d11] 23, row v2 3 1 (([r.d0, r.d1, r.d2, r.d3, r.d4, r.d5, r.d6, r.d7, r.d8, r.d9, r.d10, r.d11]).map encZ)]
  refine J.seq ?_
  refine J.seq ?_
  refine J.region ?_
  refine O.p (Pu.move rfl) rfl ?_
  refine O.p (Pu.move rfl) rfl ?_
  refine O.q (Qt.lenM Tryz.runUnderlying34 rfl (Src.row 1 rfl)) rfl ?_
  refine O.p (Pu.lss rfl rfl) rfl ?_
  refine O.nil ?_
  refine J.condT rfl rfl ?_
  refine J.skip ?_
  refine J.seq ?_
  refine J.block ?_
  refine J.seq ?_
  refine J.region ?_
  refine O.p (Pu.move rfl) rfl ?_
  refine O.p (Pu.move rfl) rfl ?_
  have he20 : ([r.d0, r.d1, r.d2, r.d3, r.d4, r.d5, r.d6, r.d7, r.d8, r.d9, r.d10, r.d11])[4]? = some r.d4 := rfl
  refine O.q (Qt.idxM Tryz.runUnderlying34 Tryz.sizeOf3 rfl (Src.row 1 rfl) rfl (by first | omega | decide | (simp; done) | (simp only [List.length_append, List.length_cons, List.length_nil, List.length_take]; omega)) (by first | omega | decide | (simp; done) | (simp only [List.length_append, List.length_cons, List.length_nil, List.length_take]; omega))) rfl ?_
  refine O.q (Qt.ld rfl (Cel.eltM (Src.row 1 rfl) he20) (o := (voff v2 + 4 * 1)) (off := 0) (by omega) (Cut.one Tryz.isAgg3 rfl)) rfl ?_
  refine O.p (Pu.lss rfl rfl) rfl ?_
  refine O.nil ?_
  refine J.cond rfl (fun h21 => ?_) (fun h21 => ?_)
  ·
   have p22 := of_decide_eq_true h21
   refine J.seq ?_
   refine J.region ?_
   refine O.p (Pu.assign rfl) rfl ?_
   refine O.nil ?_
   exact J.ret (Fin.ret (rs := [.tmp 2]) rfl [_] ⟨rfl, trivial⟩ [] (by decide) [] rfl ⟨(by rw [Rp.right_neg (r := r) (k := 4) rfl ‹_›]; rfl), rfl⟩)
  ·
   have p23 := of_decide_eq_false h21
   refine J.skip ?_
   refine J.blk ?_
   refine J.region ?_
   refine O.p (Pu.move rfl) rfl ?_
   refine O.p (Pu.add' rfl rfl (by first | omega | (simp only [List.length_append, List.length_cons, List.length_nil, List.length_set]; omega))) rfl ?_
   refine O.p (Pu.assign rfl) rfl ?_
   refine O.nil ?_
   exact J.lp 5 (show 5 ≤ 12 ∧ (((Rp.nums r).take 5).all fun n => decide (0 ≤ n)) = true from ⟨by omega, Rp.all_next hst rfl (decide_eq_true (by omega))⟩) (show 12 - 5 < 12 - 4 from (by first | omega | decide | (simp; done) | (simp only [List.length_append, List.length_cons, List.length_nil, List.length_take]; omega))) ⟨rfl, rfl, (congrArg (fun z => some (Value.int .i64 z)) (by first | rfl | omega : (4 + 1 : Int) = (5 : Int))), trivial⟩ [0, 1] (by decide) rfl
 ·
  show J _ _ [(1, .pointer (some ⟨g1, 0, none⟩)), (3, v2), (4, .int .i64 5)] [var g1 [.int .i64 r.d0, .int .i64 r.d1, .int .i64 r.d2, .int .i64 r.d3, .int .i64 r.d4, .int .i64 r.d5, .int .i64 r.d6, .int .i64 r.d7, .int .i64 r.d8, .int .i64 r.d9, .int .i64 r.d10, .int .i64 r.d11] 23, row v2 3 1 (([r.d0, r.d1, r.d2, r.d3, r.d4, r.d5, r.d6, r.d7, r.d8, r.d9, r.d10, r.d11]).map encZ)]
  refine J.seq ?_
  refine J.seq ?_
  refine J.region ?_
  refine O.p (Pu.move rfl) rfl ?_
  refine O.p (Pu.move rfl) rfl ?_
  refine O.q (Qt.lenM Tryz.runUnderlying34 rfl (Src.row 1 rfl)) rfl ?_
  refine O.p (Pu.lss rfl rfl) rfl ?_
  refine O.nil ?_
  refine J.condT rfl rfl ?_
  refine J.skip ?_
  refine J.seq ?_
  refine J.block ?_
  refine J.seq ?_
  refine J.region ?_
  refine O.p (Pu.move rfl) rfl ?_
  refine O.p (Pu.move rfl) rfl ?_
  have he24 : ([r.d0, r.d1, r.d2, r.d3, r.d4, r.d5, r.d6, r.d7, r.d8, r.d9, r.d10, r.d11])[5]? = some r.d5 := rfl
  refine O.q (Qt.idxM Tryz.runUnderlying34 Tryz.sizeOf3 rfl (Src.row 1 rfl) rfl (by first | omega | decide | (simp; done) | (simp only [List.length_append, List.length_cons, List.length_nil, List.length_take]; omega)) (by first | omega | decide | (simp; done) | (simp only [List.length_append, List.length_cons, List.length_nil, List.length_take]; omega))) rfl ?_
  refine O.q (Qt.ld rfl (Cel.eltM (Src.row 1 rfl) he24) (o := (voff v2 + 5 * 1)) (off := 0) (by omega) (Cut.one Tryz.isAgg3 rfl)) rfl ?_
  refine O.p (Pu.lss rfl rfl) rfl ?_
  refine O.nil ?_
  refine J.cond rfl (fun h25 => ?_) (fun h25 => ?_)
  ·
   have p26 := of_decide_eq_true h25
   refine J.seq ?_
   refine J.region ?_
   refine O.p (Pu.assign rfl) rfl ?_
   refine O.nil ?_
   exact J.ret (Fin.ret (rs := [.tmp 2]) rfl [_] ⟨rfl, trivial⟩ [] (by decide) [] rfl ⟨(by rw [Rp.right_neg (r := r) (k := 5) rfl ‹_›]; rfl), rfl⟩)
  ·
   have p27 := of_decide_eq_false h25
   refine J.skip ?_
   refine J.blk ?_
   refine J.region ?_
   refine O.p (Pu.move rfl) rfl ?_
   refine O.p (Pu.add' rfl rfl (by first | omega | (simp only [List.length_append, List.length_cons, List.length_nil, List.length_set]; omega))) rfl ?_
   refine O.p (Pu.assign rfl) rfl ?_
   refine O.nil ?_
   exact J.lp 6 (show 6 ≤ 12 ∧ (((Rp.nums r).take 6).all fun n => decide (0 ≤ n)) = true from ⟨by omega, Rp.all_next hst rfl (decide_eq_true (by omega))⟩) (show 12 - 6 < 12 - 5 from (by first | omega | decide | (simp; done) | (simp only [List.length_append, List.length_cons, List.length_nil, List.length_take]; omega))) ⟨rfl, rfl, (congrArg (fun z => some (Value.int .i64 z)) (by first | rfl | omega : (5 + 1 : Int) = (6 : Int))), trivial⟩ [0, 1] (by decide) rfl
 ·
  show J _ _ [(1, .pointer (some ⟨g1, 0, none⟩)), (3, v2), (4, .int .i64 6)] [var g1 [.int .i64 r.d0, .int .i64 r.d1, .int .i64 r.d2, .int .i64 r.d3, .int .i64 r.d4, .int .i64 r.d5, .int .i64 r.d6, .int .i64 r.d7, .int .i64 r.d8, .int .i64 r.d9, .int .i64 r.d10, .int .i64 r.d11] 23, row v2 3 1 (([r.d0, r.d1, r.d2, r.d3, r.d4, r.d5, r.d6, r.d7, r.d8, r.d9, r.d10, r.d11]).map encZ)]
  refine J.seq ?_
  refine J.seq ?_
  refine J.region ?_
  refine O.p (Pu.move rfl) rfl ?_
  refine O.p (Pu.move rfl) rfl ?_
  refine O.q (Qt.lenM Tryz.runUnderlying34 rfl (Src.row 1 rfl)) rfl ?_
  refine O.p (Pu.lss rfl rfl) rfl ?_
  refine O.nil ?_
  refine J.condT rfl rfl ?_
  refine J.skip ?_
  refine J.seq ?_
  refine J.block ?_
  refine J.seq ?_
  refine J.region ?_
  refine O.p (Pu.move rfl) rfl ?_
  refine O.p (Pu.move rfl) rfl ?_
  have he28 : ([r.d0, r.d1, r.d2, r.d3, r.d4, r.d5, r.d6, r.d7, r.d8, r.d9, r.d10, r.d11])[6]? = some r.d6 := rfl
  refine O.q (Qt.idxM Tryz.runUnderlying34 Tryz.sizeOf3 rfl (Src.row 1 rfl) rfl (by first | omega | decide | (simp; done) | (simp only [List.length_append, List.length_cons, List.length_nil, List.length_take]; omega)) (by first | omega | decide | (simp; done) | (simp only [List.length_append, List.length_cons, List.length_nil, List.length_take]; omega))) rfl ?_
  refine O.q (Qt.ld rfl (Cel.eltM (Src.row 1 rfl) he28) (o := (voff v2 + 6 * 1)) (off := 0) (by omega) (Cut.one Tryz.isAgg3 rfl)) rfl ?_
  refine O.p (Pu.lss rfl rfl) rfl ?_
  refine O.nil ?_
  refine J.cond rfl (fun h29 => ?_) (fun h29 => ?_)
  ·
   have p30 := of_decide_eq_true h29
   refine J.seq ?_
   refine J.region ?_
   refine O.p (Pu.assign rfl) rfl ?_
   refine O.nil ?_
   exact J.ret (Fin.ret (rs := [.tmp 2]) rfl [_] ⟨rfl, trivial⟩ [] (by decide) [] rfl ⟨(by rw [Rp.right_neg (r := r) (k := 6) rfl ‹_›]; rfl), rfl⟩)
  ·
   have p31 := of_decide_eq_false h29
   refine J.skip ?_
   refine J.blk ?_
   refine J.region ?_
   refine O.p (Pu.move rfl) rfl ?_
   refine O.p (Pu.add' rfl rfl (by first | omega | (simp only [List.length_append, List.length_cons, List.length_nil, List.length_set]; omega))) rfl ?_
   refine O.p (Pu.assign rfl) rfl ?_
   refine O.nil ?_
   exact J.lp 7 (show 7 ≤ 12 ∧ (((Rp.nums r).take 7).all fun n => decide (0 ≤ n)) = true from ⟨by omega, Rp.all_next hst rfl (decide_eq_true (by omega))⟩) (show 12 - 7 < 12 - 6 from (by first | omega | decide | (simp; done) | (simp only [List.length_append, List.length_cons, List.length_nil, List.length_take]; omega))) ⟨rfl, rfl, (congrArg (fun z => some (Value.int .i64 z)) (by first | rfl | omega : (6 + 1 : Int) = (7 : Int))), trivial⟩ [0, 1] (by decide) rfl
 ·
  show J _ _ [(1, .pointer (some ⟨g1, 0, none⟩)), (3, v2), (4, .int .i64 7)] [var g1 [.int .i64 r.d0, .int .i64 r.d1, .int .i64 r.d2, .int .i64 r.d3, .int .i64 r.d4, .int .i64 r.d5, .int .i64 r.d6, .int .i64 r.d7, .int .i64 r.d8, .int .i64 r.d9, .int .i64 r.d10, .int .i64 r.d11] 23, row v2 3 1 (([r.d0, r.d1, r.d2, r.d3, r.d4, r.d5, r.d6, r.d7, r.d8, r.d9, r.d10, r.d11]).map encZ)]
  refine J.seq ?_
  refine J.seq ?_
  refine J.region ?_
  refine O.p (Pu.move rfl) rfl ?_
  refine O.p (Pu.move rfl) rfl ?_
  refine O.q (Qt.lenM Tryz.runUnderlying34 rfl (Src.row 1 rfl)) rfl ?_
  refine O.p (Pu.lss rfl rfl) rfl ?_
  refine O.nil ?_
  refine J.condT rfl rfl ?_
  refine J.skip ?_
  refine J.seq ?_
  refine J.block ?_
  refine J.seq ?_
  refine J.region ?_
  refine O.p (Pu.move rfl) rfl ?_
  refine O.p (Pu.move rfl) rfl ?_
  have he32 : ([r.d0, r.d1, r.d2, r.d3, r.d4, r.d5, r.d6, r.d7, r.d8, r.d9, r.d10, r.d11])[7]? = some r.d7 := rfl
  refine O.q (Qt.idxM Tryz.runUnderlying34 Tryz.sizeOf3 rfl (Src.row 1 rfl) rfl (by first | omega | decide | (simp; done) | (simp only [List.length_append, List.length_cons, List.length_nil, List.length_take]; omega)) (by first | omega | decide | (simp; done) | (simp only [List.length_append, List.length_cons, List.length_nil, List.length_take]; omega))) rfl ?_
  refine O.q (Qt.ld rfl (Cel.eltM (Src.row 1 rfl) he32) (o := (voff v2 + 7 * 1)) (off := 0) (by omega) (Cut.one Tryz.isAgg3 rfl)) rfl ?_
  refine O.p (Pu.lss rfl rfl) rfl ?_
  refine O.nil ?_
  refine J.cond rfl (fun h33 => ?_) (fun h33 => ?_)
  ·
   have p34 := of_decide_eq_true h33
   refine J.seq ?_
   refine J.region ?_
   refine O.p (Pu.assign rfl) rfl ?_
   refine O.nil ?_
   exact J.ret (Fin.ret (rs := [.tmp 2]) rfl [_] ⟨rfl, trivial⟩ [] (by decide) [] rfl ⟨(by rw [Rp.right_neg (r := r) (k := 7) rfl ‹_›]; rfl), rfl⟩)
  ·
   have p35 := of_decide_eq_false h33
   refine J.skip ?_
   refine J.blk ?_
   refine J.region ?_
   refine O.p (Pu.move rfl) rfl ?_
   refine O.p (Pu.add' rfl rfl (by first | omega | (simp only [List.length_append, List.length_cons, List.length_nil, List.length_set]; omega))) rfl ?_
   refine O.p (Pu.assign rfl) rfl ?_
   refine O.nil ?_
   exact J.lp 8 (show 8 ≤ 12 ∧ (((Rp.nums r).take 8).all fun n => decide (0 ≤ n)) = true from ⟨by omega, Rp.all_next hst rfl (decide_eq_true (by omega))⟩) (show 12 - 8 < 12 - 7 from (by first | omega | decide | (simp; done) | (simp only [List.length_append, List.length_cons, List.length_nil, List.length_take]; omega))) ⟨rfl, rfl, (congrArg (fun z => some (Value.int .i64 z)) (by first | rfl | omega : (7 + 1 : Int) = (8 : Int))), trivial⟩ [0, 1] (by decide) rfl
 ·
  show J _ _ [(1, .pointer (some ⟨g1, 0, none⟩)), (3, v2), (4, .int .i64 8)] [var g1 [.int .i64 r.d0, .int .i64 r.d1, .int .i64 r.d2, .int .i64 r.d3, .int .i64 r.d4, .int .i64 r.d5, .int .i64 r.d6, .int .i64 r.d7, .int .i64 r.d8, .int .i64 r.d9, .int .i64 r.d10, .int .i64 r.d11] 23, row v2 3 1 (([r.d0, r.d1, r.d2, r.d3, r.d4, r.d5, r.d6, r.d7, r.d8, r.d9, r.d10, r.d11]).map encZ)]
  refine J.seq ?_
  refine J.seq ?_
  refine J.region ?_
  refine O.p (Pu.move rfl) rfl ?_
  refine O.p (Pu.move rfl) rfl ?_
  refine O.q (Qt.lenM Tryz.runUnderlying34 rfl (Src.row 1 rfl)) rfl ?_
  refine O.p (Pu.lss rfl rfl) rfl ?_
  refine O.nil ?_
  refine J.condT rfl rfl ?_
  refine J.skip ?_
  refine J.seq ?_
  refine J.block ?_
  refine J.seq ?_
  refine J.region ?_
  refine O.p (Pu.move rfl) rfl ?_
  refine O.p (Pu.move rfl) rfl ?_
  have he36 : ([r.d0, r.d1, r.d2, r.d3, r.d4, r.d5, r.d6, r.d7, r.d8, r.d9, r.d10, r.d11])[8]? = some r.d8 := rfl
  refine O.q (Qt.idxM Tryz.runUnderlying34 Tryz.sizeOf3 rfl (Src.row 1 rfl) rfl (by first | omega | decide | (simp; done) | (simp only [List.length_append, List.length_cons, List.length_nil, List.length_take]; omega)) (by first | omega | decide | (simp; done) | (simp only [List.length_append, List.length_cons, List.length_nil, List.length_take]; omega))) rfl ?_
  refine O.q (Qt.ld rfl (Cel.eltM (Src.row 1 rfl) he36) (o := (voff v2 + 8 * 1)) (off := 0) (by omega) (Cut.one Tryz.isAgg3 rfl)) rfl ?_
  refine O.p (Pu.lss rfl rfl) rfl ?_
  refine O.nil ?_
  refine J.cond rfl (fun h37 => ?_) (fun h37 => ?_)
  ·
   have p38 := of_decide_eq_true h37
   refine J.seq ?_
   refine J.region ?_
   refine O.p (Pu.assign rfl) rfl ?_
   refine O.nil ?_
   exact J.ret (Fin.ret (rs := [.tmp 2]) rfl [_] ⟨rfl, trivial⟩ [] (by decide) [] rfl ⟨(by rw [Rp.right_neg (r := r) (k := 8) rfl ‹_›]; rfl), rfl⟩)
  ·
   have p39 := of_decide_eq_false h37
   refine J.skip ?_
   refine J.blk ?_
   refine J.region ?_
   refine O.p (Pu.move rfl) rfl ?_
   refine O.p (Pu.add' rfl rfl (by first | omega | (simp only [List.length_append, List.length_cons, List.length_nil, List.length_set]; omega))) rfl ?_
   refine O.p (Pu.assign rfl) rfl ?_
   refine O.nil ?_
   exact J.lp 9 (show 9 ≤ 12 ∧ (((Rp.nums r).take 9).all fun n => decide (0 ≤ n)) = true from ⟨by omega, Rp.all_next hst rfl (decide_eq_true (by omega))⟩) (show 12 - 9 < 12 - 8 from (by first | omega | decide | (simp; done) | (simp only [List.length_append, List.length_cons, List.length_nil, List.length_take]; omega))) ⟨rfl, rfl, (congrArg (fun z => some (Value.int .i64 z)) (by first | rfl | omega : (8 + 1 : Int) = (9 : Int))), trivial⟩ [0, 1] (by decide) rfl
 ·
  show J _ _ [(1, .pointer (some ⟨g1, 0, none⟩)), (3, v2), (4, .int .i64 9)] [var g1 [.int .i64 r.d0, .int .i64 r.d1, .int .i64 r.d2, .int .i64 r.d3, .int .i64 r.d4, .int .i64 r.d5, .int .i64 r.d6, .int .i64 r.d7, .int .i64 r.d8, .int .i64 r.d9, .int .i64 r.d10, .int .i64 r.d11] 23, row v2 3 1 (([r.d0, r.d1, r.d2, r.d3, r.d4, r.d5, r.d6, r.d7, r.d8, r.d9, r.d10, r.d11]).map encZ)]
  refine J.seq ?_
  refine J.seq ?_
  refine J.region ?_
  refine O.p (Pu.move rfl) rfl ?_
  refine O.p (Pu.move rfl) rfl ?_
  refine O.q (Qt.lenM Tryz.runUnderlying34 rfl (Src.row 1 rfl)) rfl ?_
  refine O.p (Pu.lss rfl rfl) rfl ?_
  refine O.nil ?_
  refine J.condT rfl rfl ?_
  refine J.skip ?_
  refine J.seq ?_
  refine J.block ?_
  refine J.seq ?_
  refine J.region ?_
  refine O.p (Pu.move rfl) rfl ?_
  refine O.p (Pu.move rfl) rfl ?_
  have he40 : ([r.d0, r.d1, r.d2, r.d3, r.d4, r.d5, r.d6, r.d7, r.d8, r.d9, r.d10, r.d11])[9]? = some r.d9 := rfl
  refine O.q (Qt.idxM Tryz.runUnderlying34 Tryz.sizeOf3 rfl (Src.row 1 rfl) rfl (by first | omega | decide | (simp; done) | (simp only [List.length_append, List.length_cons, List.length_nil, List.length_take]; omega)) (by first | omega | decide | (simp; done) | (simp only [List.length_append, List.length_cons, List.length_nil, List.length_take]; omega))) rfl ?_
  refine O.q (Qt.ld rfl (Cel.eltM (Src.row 1 rfl) he40) (o := (voff v2 + 9 * 1)) (off := 0) (by omega) (Cut.one Tryz.isAgg3 rfl)) rfl ?_
  refine O.p (Pu.lss rfl rfl) rfl ?_
  refine O.nil ?_
  refine J.cond rfl (fun h41 => ?_) (fun h41 => ?_)
  ·
   have p42 := of_decide_eq_true h41
   refine J.seq ?_
   refine J.region ?_
   refine O.p (Pu.assign rfl) rfl ?_
   refine O.nil ?_
   exact J.ret (Fin.ret (rs := [.tmp 2]) rfl [_] ⟨rfl, trivial⟩ [] (by decide) [] rfl ⟨(by rw [Rp.right_neg (r := r) (k := 9) rfl ‹_›]; rfl), rfl⟩)
  ·
   have p43 := of_decide_eq_false h41
   refine J.skip ?_
   refine J.blk ?_
   refine J.region ?_
   refine O.p (Pu.move rfl) rfl ?_
   refine O.p (Pu.add' rfl rfl (by first | omega | (simp only [List.length_append, List.length_cons, List.length_nil, List.length_set]; omega))) rfl ?_
   refine O.p (Pu.assign rfl) rfl ?_
   refine O.nil ?_
   exact J.lp 10 (show 10 ≤ 12 ∧ (((Rp.nums r).take 10).all fun n => decide (0 ≤ n)) = true from ⟨by omega, Rp.all_next hst rfl (decide_eq_true (by omega))⟩) (show 12 - 10 < 12 - 9 from (by first | omega | decide | (simp; done) | (simp only [List.length_append, List.length_cons, List.length_nil, List.length_take]; omega))) ⟨rfl, rfl, (congrArg (fun z => some (Value.int .i64 z)) (by first | rfl | omega : (9 + 1 : Int) = (10 : Int))), trivial⟩ [0, 1] (by decide) rfl
 ·
  show J _ _ [(1, .pointer (some ⟨g1, 0, none⟩)), (3, v2), (4, .int .i64 10)] [var g1 [.int .i64 r.d0, .int .i64 r.d1, .int .i64 r.d2, .int .i64 r.d3, .int .i64 r.d4, .int .i64 r.d5, .int .i64 r.d6, .int .i64 r.d7, .int .i64 r.d8, .int .i64 r.d9, .int .i64 r.d10, .int .i64 r.d11] 23, row v2 3 1 (([r.d0, r.d1, r.d2, r.d3, r.d4, r.d5, r.d6, r.d7, r.d8, r.d9, r.d10, r.d11]).map encZ)]
  refine J.seq ?_
  refine J.seq ?_
  refine J.region ?_
  refine O.p (Pu.move rfl) rfl ?_
  refine O.p (Pu.move rfl) rfl ?_
  refine O.q (Qt.lenM Tryz.runUnderlying34 rfl (Src.row 1 rfl)) rfl ?_
  refine O.p (Pu.lss rfl rfl) rfl ?_
  refine O.nil ?_
  refine J.condT rfl rfl ?_
  refine J.skip ?_
  refine J.seq ?_
  refine J.block ?_
  refine J.seq ?_
  refine J.region ?_
  refine O.p (Pu.move rfl) rfl ?_
  refine O.p (Pu.move rfl) rfl ?_
  have he44 : ([r.d0, r.d1, r.d2, r.d3, r.d4, r.d5, r.d6, r.d7, r.d8, r.d9, r.d10, r.d11])[10]? = some r.d10 := rfl
  refine O.q (Qt.idxM Tryz.runUnderlying34 Tryz.sizeOf3 rfl (Src.row 1 rfl) rfl (by first | omega | decide | (simp; done) | (simp only [List.length_append, List.length_cons, List.length_nil, List.length_take]; omega)) (by first | omega | decide | (simp; done) | (simp only [List.length_append, List.length_cons, List.length_nil, List.length_take]; omega))) rfl ?_
  refine O.q (Qt.ld rfl (Cel.eltM (Src.row 1 rfl) he44) (o := (voff v2 + 10 * 1)) (off := 0) (by omega) (Cut.one Tryz.isAgg3 rfl)) rfl ?_
  refine O.p (Pu.lss rfl rfl) rfl ?_
  refine O.nil ?_
  refine J.cond rfl (fun h45 => ?_) (fun h45 => ?_)
  ·
   have p46 := of_decide_eq_true h45
   refine J.seq ?_
   refine J.region ?_
   refine O.p (Pu.assign rfl) rfl ?_
   refine O.nil ?_
   exact J.ret (Fin.ret (rs := [.tmp 2]) rfl [_] ⟨rfl, trivial⟩ [] (by decide) [] rfl ⟨(by rw [Rp.right_neg (r := r) (k := 10) rfl ‹_›]; rfl), rfl⟩)
  ·
   have p47 := of_decide_eq_false h45
   refine J.skip ?_
   refine J.blk ?_
   refine J.region ?_
   refine O.p (Pu.move rfl) rfl ?_
   refine O.p (Pu.add' rfl rfl (by first | omega | (simp only [List.length_append, List.length_cons, List.length_nil, List.length_set]; omega))) rfl ?_
   refine O.p (Pu.assign rfl) rfl ?_
   refine O.nil ?_
   exact J.lp 11 (show 11 ≤ 12 ∧ (((Rp.nums r).take 11).all fun n => decide (0 ≤ n)) = true from ⟨by omega, Rp.all_next hst rfl (decide_eq_true (by omega))⟩) (show 12 - 11 < 12 - 10 from (by first | omega | decide | (simp; done) | (simp only [List.length_append, List.length_cons, List.length_nil, List.length_take]; omega))) ⟨rfl, rfl, (congrArg (fun z => some (Value.int .i64 z)) (by first | rfl | omega : (10 + 1 : Int) = (11 : Int))), trivial⟩ [0, 1] (by decide) rfl
 ·
  show J _ _ [(1, .pointer (some ⟨g1, 0, none⟩)), (3, v2), (4, .int .i64 11)] [var g1 [.int .i64 r.d0, .int .i64 r.d1, .int .i64 r.d2, .int .i64 r.d3, .int .i64 r.d4, .int .i64 r.d5, .int .i64 r.d6, .int .i64 r.d7, .int .i64 r.d8, .int .i64 r.d9, .int .i64 r.d10, .int .i64 r.d11] 23, row v2 3 1 (([r.d0, r.d1, r.d2, r.d3, r.d4, r.d5, r.d6, r.d7, r.d8, r.d9, r.d10, r.d11]).map encZ)]
  refine J.seq ?_
  refine J.seq ?_
  refine J.region ?_
  refine O.p (Pu.move rfl) rfl ?_
  refine O.p (Pu.move rfl) rfl ?_
  refine O.q (Qt.lenM Tryz.runUnderlying34 rfl (Src.row 1 rfl)) rfl ?_
  refine O.p (Pu.lss rfl rfl) rfl ?_
  refine O.nil ?_
  refine J.condT rfl rfl ?_
  refine J.skip ?_
  refine J.seq ?_
  refine J.block ?_
  refine J.seq ?_
  refine J.region ?_
  refine O.p (Pu.move rfl) rfl ?_
  refine O.p (Pu.move rfl) rfl ?_
  have he48 : ([r.d0, r.d1, r.d2, r.d3, r.d4, r.d5, r.d6, r.d7, r.d8, r.d9, r.d10, r.d11])[11]? = some r.d11 := rfl
  refine O.q (Qt.idxM Tryz.runUnderlying34 Tryz.sizeOf3 rfl (Src.row 1 rfl) rfl (by first | omega | decide | (simp; done) | (simp only [List.length_append, List.length_cons, List.length_nil, List.length_take]; omega)) (by first | omega | decide | (simp; done) | (simp only [List.length_append, List.length_cons, List.length_nil, List.length_take]; omega))) rfl ?_
  refine O.q (Qt.ld rfl (Cel.eltM (Src.row 1 rfl) he48) (o := (voff v2 + 11 * 1)) (off := 0) (by omega) (Cut.one Tryz.isAgg3 rfl)) rfl ?_
  refine O.p (Pu.lss rfl rfl) rfl ?_
  refine O.nil ?_
  refine J.cond rfl (fun h49 => ?_) (fun h49 => ?_)
  ·
   have p50 := of_decide_eq_true h49
   refine J.seq ?_
   refine J.region ?_
   refine O.p (Pu.assign rfl) rfl ?_
   refine O.nil ?_
   exact J.ret (Fin.ret (rs := [.tmp 2]) rfl [_] ⟨rfl, trivial⟩ [] (by decide) [] rfl ⟨(by rw [Rp.right_neg (r := r) (k := 11) rfl ‹_›]; rfl), rfl⟩)
  ·
   have p51 := of_decide_eq_false h49
   refine J.skip ?_
   refine J.blk ?_
   refine J.region ?_
   refine O.p (Pu.move rfl) rfl ?_
   refine O.p (Pu.add' rfl rfl (by first | omega | (simp only [List.length_append, List.length_cons, List.length_nil, List.length_set]; omega))) rfl ?_
   refine O.p (Pu.assign rfl) rfl ?_
   refine O.nil ?_
   exact J.lp 12 (show 12 ≤ 12 ∧ (((Rp.nums r).take 12).all fun n => decide (0 ≤ n)) = true from ⟨by omega, Rp.all_next hst rfl (decide_eq_true (by omega))⟩) (show 12 - 12 < 12 - 11 from (by first | omega | decide | (simp; done) | (simp only [List.length_append, List.length_cons, List.length_nil, List.length_take]; omega))) ⟨rfl, rfl, (congrArg (fun z => some (Value.int .i64 z)) (by first | rfl | omega : (11 + 1 : Int) = (12 : Int))), trivial⟩ [0, 1] (by decide) rfl
 ·
  show J _ _ [(1, .pointer (some ⟨g1, 0, none⟩)), (3, v2), (4, .int .i64 12)] [var g1 [.int .i64 r.d0, .int .i64 r.d1, .int .i64 r.d2, .int .i64 r.d3, .int .i64 r.d4, .int .i64 r.d5, .int .i64 r.d6, .int .i64 r.d7, .int .i64 r.d8, .int .i64 r.d9, .int .i64 r.d10, .int .i64 r.d11] 23, row v2 3 1 (([r.d0, r.d1, r.d2, r.d3, r.d4, r.d5, r.d6, r.d7, r.d8, r.d9, r.d10, r.d11]).map encZ)]
  refine J.seq ?_
  refine J.seq ?_
  refine J.region ?_
  refine O.p (Pu.move rfl) rfl ?_
  refine O.p (Pu.move rfl) rfl ?_
  refine O.q (Qt.lenM Tryz.runUnderlying34 rfl (Src.row 1 rfl)) rfl ?_
  refine O.p (Pu.lss rfl rfl) rfl ?_
  refine O.nil ?_
  refine J.condF rfl rfl ?_
  refine J.exit _ rfl ?_
  refine J.seq ?_
  refine J.drawMix [(0, false), (1, false), (2, false), (3, false), (4, false), (5, false), (6, false), (7, false), (8, false), (9, false), (10, false), (11, false), (12, false), (13, false), (14, false), (15, false), (16, false), (17, false), (18, false), (19, false), (20, false), (21, false), (22, false), (23, false), (24, false), (25, false), (26, false), (27, false), (28, false), (31, false), (32, false), (29, true), (30, false), (33, false), (34, false), (35, false), (36, false), (37, false), (38, false), (39, false), (40, false), (41, false), (42, false), (43, false), (44, false), (45, false)] [0] [var g1 [.int .i64 r.d0, .int .i64 r.d1, .int .i64 r.d2, .int .i64 r.d3, .int .i64 r.d4, .int .i64 r.d5, .int .i64 r.d6, .int .i64 r.d7, .int .i64 r.d8, .int .i64 r.d9, .int .i64 r.d10, .int .i64 r.d11] 23] Tryz.mixed (by kernel_rfl) (by decide) rfl ?_
  refine Mx.p rfl (Pu.fieldAddr (off' := 1) Tryz.runUnderlying23 rfl Tryz.sizeOf3 rfl rfl rfl) rfl ?_
  refine Mx.q rfl (Qt.ld rfl (Cel.var 0 rfl) (o := 0) (off := 1) rfl (Cut.one Tryz.isAgg3 rfl)) rfl ?_
  refine Mx.p rfl (Pu.fieldAddr (off' := 2) Tryz.runUnderlying23 rfl Tryz.sizeOf3 rfl rfl rfl) rfl ?_
  refine Mx.q rfl (Qt.ld rfl (Cel.var 0 rfl) (o := 0) (off := 2) rfl (Cut.one Tryz.isAgg3 rfl)) rfl ?_
  refine Mx.call (vs := [.int .i64 r.d1, .int .i64 r.d2]) (caps := []) rfl (by exact Tryz.call32) rfl rfl (r01_Add r.d1 r.d2) (fun _ _ h => h) RoOk.nil rfl ?_
  refine Mx.p rfl (Pu.fieldAddr (off' := 0) Tryz.runUnderlying23 rfl Tryz.sizeOf3 rfl rfl rfl) rfl ?_
  refine Mx.q rfl (Qt.ld rfl (Cel.var 0 rfl) (o := 0) (off := 0) rfl (Cut.one Tryz.isAgg3 rfl)) rfl ?_
  refine Mx.p rfl (Pu.leq rfl rfl) rfl ?_
  refine Mx.p rfl (Pu.move rfl) rfl ?_
  refine by_bool (decide ((Rp.addC r.d1 r.d2) ≤ r.d0)) (fun h52 => ?_) (fun h52 => ?_)
  ·
   have p53 := of_decide_eq_true h52
   refine Mx.gq (t := 26) rfl rfl rfl h52 rfl (Pu.qt (Pu.fieldAddr (off' := 3) Tryz.runUnderlying23 rfl Tryz.sizeOf3 rfl rfl rfl)) rfl ?_
   refine Mx.gq (t := 26) rfl rfl rfl h52 rfl (Qt.ld rfl (Cel.var 0 rfl) (o := 0) (off := 3) rfl (Cut.one Tryz.isAgg3 rfl)) rfl ?_
   refine Mx.gq (t := 26) rfl rfl rfl h52 rfl (Pu.qt (Pu.fieldAddr (off' := 1) Tryz.runUnderlying23 rfl Tryz.sizeOf3 rfl rfl rfl)) rfl ?_
   refine Mx.gq (t := 26) rfl rfl rfl h52 rfl (Qt.ld rfl (Cel.var 0 rfl) (o := 0) (off := 1) rfl (Cut.one Tryz.isAgg3 rfl)) rfl ?_
   refine Mx.gq (t := 26) rfl rfl rfl h52 rfl (Pu.qt (Pu.leq rfl rfl)) rfl ?_
   refine Mx.p rfl (Pu.pickT rfl h52 rfl) rfl ?_
   refine Mx.p rfl (Pu.move rfl) rfl ?_
   refine by_bool (decide (r.d3 ≤ r.d1)) (fun h54 => ?_) (fun h54 => ?_)
   ·
    have p55 := of_decide_eq_true h54
    refine Mx.gq (t := 33) rfl rfl rfl h54 rfl (Pu.qt (Pu.fieldAddr (off' := 4) Tryz.runUnderlying23 rfl Tryz.sizeOf3 rfl rfl rfl)) rfl ?_
    refine Mx.gq (t := 33) rfl rfl rfl h54 rfl (Qt.ld rfl (Cel.var 0 rfl) (o := 0) (off := 4) rfl (Cut.one Tryz.isAgg3 rfl)) rfl ?_
    refine Mx.gq (t := 33) rfl rfl rfl h54 rfl (Pu.qt (Pu.fieldAddr (off' := 3) Tryz.runUnderlying23 rfl Tryz.sizeOf3 rfl rfl rfl)) rfl ?_
    refine Mx.gq (t := 33) rfl rfl rfl h54 rfl (Qt.ld rfl (Cel.var 0 rfl) (o := 0) (off := 3) rfl (Cut.one Tryz.isAgg3 rfl)) rfl ?_
    refine Mx.gq (t := 33) rfl rfl rfl h54 rfl (Pu.qt (Pu.leq rfl rfl)) rfl ?_
    refine Mx.p rfl (Pu.pickT rfl h54 rfl) rfl ?_
    refine Mx.p rfl (Pu.move rfl) rfl ?_
    refine by_bool (decide (r.d4 ≤ r.d3)) (fun h56 => ?_) (fun h56 => ?_)
    ·
     have p57 := of_decide_eq_true h56
     refine Mx.gq (t := 40) rfl rfl rfl h56 rfl (Pu.qt (Pu.fieldAddr (off' := 4) Tryz.runUnderlying23 rfl Tryz.sizeOf3 rfl rfl rfl)) rfl ?_
     refine Mx.gq (t := 40) rfl rfl rfl h56 rfl (Qt.ld rfl (Cel.var 0 rfl) (o := 0) (off := 4) rfl (Cut.one Tryz.isAgg3 rfl)) rfl ?_
     refine Mx.gq (t := 40) rfl rfl rfl h56 rfl (Pu.qt (Pu.fieldAddr (off' := 5) Tryz.runUnderlying23 rfl Tryz.sizeOf3 rfl rfl rfl)) rfl ?_
     refine Mx.gq (t := 40) rfl rfl rfl h56 rfl (Qt.ld rfl (Cel.var 0 rfl) (o := 0) (off := 5) rfl (Cut.one Tryz.isAgg3 rfl)) rfl ?_
     refine Mx.gq (t := 40) rfl rfl rfl h56 rfl (Pu.qt (Pu.fieldAddr (off' := 6) Tryz.runUnderlying23 rfl Tryz.sizeOf3 rfl rfl rfl)) rfl ?_
     refine Mx.gq (t := 40) rfl rfl rfl h56 rfl (Qt.ld rfl (Cel.var 0 rfl) (o := 0) (off := 6) rfl (Cut.one Tryz.isAgg3 rfl)) rfl ?_
     refine Mx.gq (t := 40) rfl rfl rfl h56 rfl (Pu.qt (Pu.fieldAddr (off' := 0) Tryz.runUnderlying23 rfl Tryz.sizeOf3 rfl rfl rfl)) rfl ?_
     refine Mx.gq (t := 40) rfl rfl rfl h56 rfl (Qt.ld rfl (Cel.var 0 rfl) (o := 0) (off := 0) rfl (Cut.one Tryz.isAgg3 rfl)) rfl ?_
     refine Mx.gl (t := 40) rfl rfl rfl h56 rfl (Lo.buildM (s := 1) encZ [r.d4, r.d5, r.d6] [(0, .int .i64 r.d4), (1, .int .i64 r.d5), (2, .int .i64 r.d6)] (by exact Tryz.runUnderlying34) (by exact Tryz.sizeOf3) (by exact Tryz.zeroValue3) rfl rfl rfl (by kernel_rfl) rfl rfl) rfl ?_
     rintro V58 _ rfl
     refine MxK.go [0, 1] [1] [row V58 3 1 (([r.d4, r.d5, r.d6]).map encZ), var g1 [.int .i64 r.d0, .int .i64 r.d1, .int .i64 r.d2, .int .i64 r.d3, .int .i64 r.d4, .int .i64 r.d5, .int .i64 r.d6, .int .i64 r.d7, .int .i64 r.d8, .int .i64 r.d9, .int .i64 r.d10, .int .i64 r.d11] 23] (by decide) rfl (by decide) rfl ?_
     refine Mx.gcall (vs := [V58]) (caps := []) (t := 40) rfl rfl rfl h56 rfl (by exact Tryz.call36) rfl rfl (r01_Sum V58 ([r.d4, r.d5, r.d6]) (by first | decide | omega | (simp; done))) (fun _ _ h => h) (RoOk.of 0 rfl row_rd [] (by decide) rfl RoOk.nil) rfl ?_
     refine Mx.gq (t := 40) rfl rfl rfl h56 rfl (Pu.qt (Pu.leq rfl rfl)) rfl ?_
     refine Mx.p rfl (Pu.pickT rfl h56 rfl) rfl ?_
     refine Mx.p rfl (Pu.move rfl) rfl ?_
     refine by_bool (decide ((Rp.sumC ([r.d4, r.d5, r.d6])) ≤ r.d0)) (fun h59 => ?_) (fun h59 => ?_)
     ·
      have p60 := of_decide_eq_true h59
      refine Mx.gq (t := 53) rfl rfl rfl h59 rfl (Pu.qt (Pu.fieldAddr (off' := 11) Tryz.runUnderlying23 rfl Tryz.sizeOf3 rfl rfl rfl)) rfl ?_
      refine Mx.gq (t := 53) rfl rfl rfl h59 rfl (Qt.ld rfl (Cel.var 1 rfl) (o := 0) (off := 11) rfl (Cut.one Tryz.isAgg3 rfl)) rfl ?_
      refine Mx.gq (t := 53) rfl rfl rfl h59 rfl (Pu.qt (Pu.fieldAddr (off' := 4) Tryz.runUnderlying23 rfl Tryz.sizeOf3 rfl rfl rfl)) rfl ?_
      refine Mx.gq (t := 53) rfl rfl rfl h59 rfl (Qt.ld rfl (Cel.var 1 rfl) (o := 0) (off := 4) rfl (Cut.one Tryz.isAgg3 rfl)) rfl ?_
      refine Mx.gq (t := 53) rfl rfl rfl h59 rfl (Pu.qt (Pu.fieldAddr (off' := 0) Tryz.runUnderlying23 rfl Tryz.sizeOf3 rfl rfl rfl)) rfl ?_
      refine Mx.gq (t := 53) rfl rfl rfl h59 rfl (Qt.ld rfl (Cel.var 1 rfl) (o := 0) (off := 0) rfl (Cut.one Tryz.isAgg3 rfl)) rfl ?_
      refine Mx.gcall (vs := [.int .i64 r.d4, .int .i64 r.d0]) (caps := []) (t := 53) rfl rfl rfl h59 rfl (by exact Tryz.call34) rfl rfl (r45_share r.d4 r.d0) (fun _ _ h => h) RoOk.nil rfl ?_
      refine Mx.gq (t := 53) rfl rfl rfl h59 rfl (Pu.qt (Pu.eql rfl rfl)) rfl ?_
      refine Mx.p rfl (Pu.pickT rfl h59 rfl) rfl ?_
      refine Mx.p rfl (Pu.assign rfl) rfl ?_
      refine Mx.nil ?_
      exact J.ret (Fin.ret (rs := [.tmp 2]) rfl [_] ⟨rfl, trivial⟩ [] (by decide) [] rfl ⟨(by rw [Rp.right_all hst]; exact congrArg Value.bool (Bool.eq_iff_iff.2 (by simp only [Bool.and_eq_true, decide_eq_true_eq, Bool.false_eq_true]; omega))), rfl⟩)
     ·
      have p61 := of_decide_eq_false h59
      refine Mx.gskip (t := 53) rfl rfl rfl (no_bool (by rw [h59]; decide)) rfl rfl ?_
      refine Mx.gskip (t := 53) rfl rfl rfl (no_bool (by rw [h59]; decide)) rfl rfl ?_
      refine Mx.gskip (t := 53) rfl rfl rfl (no_bool (by rw [h59]; decide)) rfl rfl ?_
      refine Mx.gskip (t := 53) rfl rfl rfl (no_bool (by rw [h59]; decide)) rfl rfl ?_
      refine Mx.gskip (t := 53) rfl rfl rfl (no_bool (by rw [h59]; decide)) rfl rfl ?_
      refine Mx.gskip (t := 53) rfl rfl rfl (no_bool (by rw [h59]; decide)) rfl rfl ?_
      refine Mx.gskip (t := 53) rfl rfl rfl (no_bool (by rw [h59]; decide)) rfl rfl ?_
      refine Mx.gskip (t := 53) rfl rfl rfl (no_bool (by rw [h59]; decide)) rfl rfl ?_
      refine Mx.p rfl (Pu.pickF rfl h59 rfl) rfl ?_
      refine Mx.p rfl (Pu.assign rfl) rfl ?_
      refine Mx.nil ?_
      exact J.ret (Fin.ret (rs := [.tmp 2]) rfl [_] ⟨rfl, trivial⟩ [] (by decide) [] rfl ⟨(by rw [Rp.right_all hst]; exact congrArg Value.bool (Eq.symm (by simp only [Bool.and_eq_false_iff, decide_eq_false_iff_not]; omega))), rfl⟩)
    ·
     have p62 := of_decide_eq_false h56
     refine Mx.gskip (t := 40) rfl rfl rfl (no_bool (by rw [h56]; decide)) rfl rfl ?_
     refine Mx.gskip (t := 40) rfl rfl rfl (no_bool (by rw [h56]; decide)) rfl rfl ?_
     refine Mx.gskip (t := 40) rfl rfl rfl (no_bool (by rw [h56]; decide)) rfl rfl ?_
     refine Mx.gskip (t := 40) rfl rfl rfl (no_bool (by rw [h56]; decide)) rfl rfl ?_
     refine Mx.gskip (t := 40) rfl rfl rfl (no_bool (by rw [h56]; decide)) rfl rfl ?_
     refine Mx.gskip (t := 40) rfl rfl rfl (no_bool (by rw [h56]; decide)) rfl rfl ?_
     refine Mx.gskip (t := 40) rfl rfl rfl (no_bool (by rw [h56]; decide)) rfl rfl ?_
     refine Mx.gskip (t := 40) rfl rfl rfl (no_bool (by rw [h56]; decide)) rfl rfl ?_
     refine Mx.gskipL (t := 40) rfl rfl rfl (no_bool (by rw [h56]; decide)) rfl rfl ?_
     refine MxK.go [0] [0] [var g1 [.int .i64 r.d0, .int .i64 r.d1, .int .i64 r.d2, .int .i64 r.d3, .int .i64 r.d4, .int .i64 r.d5, .int .i64 r.d6, .int .i64 r.d7, .int .i64 r.d8, .int .i64 r.d9, .int .i64 r.d10, .int .i64 r.d11] 23] (by decide) rfl (by decide) rfl ?_
     refine Mx.gskip (t := 40) rfl rfl rfl (no_bool (by rw [h56]; decide)) rfl rfl ?_
     refine Mx.gskip (t := 40) rfl rfl rfl (no_bool (by rw [h56]; decide)) rfl rfl ?_
     refine Mx.p rfl (Pu.pickF rfl h56 rfl) rfl ?_
     refine Mx.p rfl (Pu.move rfl) rfl ?_
     refine Mx.gskip (t := 53) rfl rfl rfl (no_bool (by decide)) rfl rfl ?_
     refine Mx.gskip (t := 53) rfl rfl rfl (no_bool (by decide)) rfl rfl ?_
     refine Mx.gskip (t := 53) rfl rfl rfl (no_bool (by decide)) rfl rfl ?_
     refine Mx.gskip (t := 53) rfl rfl rfl (no_bool (by decide)) rfl rfl ?_
     refine Mx.gskip (t := 53) rfl rfl rfl (no_bool (by decide)) rfl rfl ?_
     refine Mx.gskip (t := 53) rfl rfl rfl (no_bool (by decide)) rfl rfl ?_
     refine Mx.gskip (t := 53) rfl rfl rfl (no_bool (by decide)) rfl rfl ?_
     refine Mx.gskip (t := 53) rfl rfl rfl (no_bool (by decide)) rfl rfl ?_
     refine Mx.p rfl (Pu.pickF rfl rfl rfl) rfl ?_
     refine Mx.p rfl (Pu.assign rfl) rfl ?_
     refine Mx.nil ?_
     exact J.ret (Fin.ret (rs := [.tmp 2]) rfl [_] ⟨rfl, trivial⟩ [] (by decide) [] rfl ⟨(by rw [Rp.right_all hst]; exact congrArg Value.bool (Eq.symm (by simp only [Bool.and_eq_false_iff, decide_eq_false_iff_not]; omega))), rfl⟩)
   ·
    have p63 := of_decide_eq_false h54
    refine Mx.gskip (t := 33) rfl rfl rfl (no_bool (by rw [h54]; decide)) rfl rfl ?_
    refine Mx.gskip (t := 33) rfl rfl rfl (no_bool (by rw [h54]; decide)) rfl rfl ?_
    refine Mx.gskip (t := 33) rfl rfl rfl (no_bool (by rw [h54]; decide)) rfl rfl ?_
    refine Mx.gskip (t := 33) rfl rfl rfl (no_bool (by rw [h54]; decide)) rfl rfl ?_
    refine Mx.gskip (t := 33) rfl rfl rfl (no_bool (by rw [h54]; decide)) rfl rfl ?_
    refine Mx.p rfl (Pu.pickF rfl h54 rfl) rfl ?_
    refine Mx.p rfl (Pu.move rfl) rfl ?_
    refine Mx.gskip (t := 40) rfl rfl rfl (no_bool (by decide)) rfl rfl ?_
    refine Mx.gskip (t := 40) rfl rfl rfl (no_bool (by decide)) rfl rfl ?_
    refine Mx.gskip (t := 40) rfl rfl rfl (no_bool (by decide)) rfl rfl ?_
    refine Mx.gskip (t := 40) rfl rfl rfl (no_bool (by decide)) rfl rfl ?_
    refine Mx.gskip (t := 40) rfl rfl rfl (no_bool (by decide)) rfl rfl ?_
    refine Mx.gskip (t := 40) rfl rfl rfl (no_bool (by decide)) rfl rfl ?_
    refine Mx.gskip (t := 40) rfl rfl rfl (no_bool (by decide)) rfl rfl ?_
    refine Mx.gskip (t := 40) rfl rfl rfl (no_bool (by decide)) rfl rfl ?_
    refine Mx.gskipL (t := 40) rfl rfl rfl (no_bool (by decide)) rfl rfl ?_
    refine MxK.go [0] [0] [var g1 [.int .i64 r.d0, .int .i64 r.d1, .int .i64 r.d2, .int .i64 r.d3, .int .i64 r.d4, .int .i64 r.d5, .int .i64 r.d6, .int .i64 r.d7, .int .i64 r.d8, .int .i64 r.d9, .int .i64 r.d10, .int .i64 r.d11] 23] (by decide) rfl (by decide) rfl ?_
    refine Mx.gskip (t := 40) rfl rfl rfl (no_bool (by decide)) rfl rfl ?_
    refine Mx.gskip (t := 40) rfl rfl rfl (no_bool (by decide)) rfl rfl ?_
    refine Mx.p rfl (Pu.pickF rfl rfl rfl) rfl ?_
    refine Mx.p rfl (Pu.move rfl) rfl ?_
    refine Mx.gskip (t := 53) rfl rfl rfl (no_bool (by decide)) rfl rfl ?_
    refine Mx.gskip (t := 53) rfl rfl rfl (no_bool (by decide)) rfl rfl ?_
    refine Mx.gskip (t := 53) rfl rfl rfl (no_bool (by decide)) rfl rfl ?_
    refine Mx.gskip (t := 53) rfl rfl rfl (no_bool (by decide)) rfl rfl ?_
    refine Mx.gskip (t := 53) rfl rfl rfl (no_bool (by decide)) rfl rfl ?_
    refine Mx.gskip (t := 53) rfl rfl rfl (no_bool (by decide)) rfl rfl ?_
    refine Mx.gskip (t := 53) rfl rfl rfl (no_bool (by decide)) rfl rfl ?_
    refine Mx.gskip (t := 53) rfl rfl rfl (no_bool (by decide)) rfl rfl ?_
    refine Mx.p rfl (Pu.pickF rfl rfl rfl) rfl ?_
    refine Mx.p rfl (Pu.assign rfl) rfl ?_
    refine Mx.nil ?_
    exact J.ret (Fin.ret (rs := [.tmp 2]) rfl [_] ⟨rfl, trivial⟩ [] (by decide) [] rfl ⟨(by rw [Rp.right_all hst]; exact congrArg Value.bool (Eq.symm (by simp only [Bool.and_eq_false_iff, decide_eq_false_iff_not]; omega))), rfl⟩)
  ·
   have p64 := of_decide_eq_false h52
   refine Mx.gskip (t := 26) rfl rfl rfl (no_bool (by rw [h52]; decide)) rfl rfl ?_
   refine Mx.gskip (t := 26) rfl rfl rfl (no_bool (by rw [h52]; decide)) rfl rfl ?_
   refine Mx.gskip (t := 26) rfl rfl rfl (no_bool (by rw [h52]; decide)) rfl rfl ?_
   refine Mx.gskip (t := 26) rfl rfl rfl (no_bool (by rw [h52]; decide)) rfl rfl ?_
   refine Mx.gskip (t := 26) rfl rfl rfl (no_bool (by rw [h52]; decide)) rfl rfl ?_
   refine Mx.p rfl (Pu.pickF rfl h52 rfl) rfl ?_
   refine Mx.p rfl (Pu.move rfl) rfl ?_
   refine Mx.gskip (t := 33) rfl rfl rfl (no_bool (by decide)) rfl rfl ?_
   refine Mx.gskip (t := 33) rfl rfl rfl (no_bool (by decide)) rfl rfl ?_
   refine Mx.gskip (t := 33) rfl rfl rfl (no_bool (by decide)) rfl rfl ?_
   refine Mx.gskip (t := 33) rfl rfl rfl (no_bool (by decide)) rfl rfl ?_
   refine Mx.gskip (t := 33) rfl rfl rfl (no_bool (by decide)) rfl rfl ?_
   refine Mx.p rfl (Pu.pickF rfl rfl rfl) rfl ?_
   refine Mx.p rfl (Pu.move rfl) rfl ?_
   refine Mx.gskip (t := 40) rfl rfl rfl (no_bool (by decide)) rfl rfl ?_
   refine Mx.gskip (t := 40) rfl rfl rfl (no_bool (by decide)) rfl rfl ?_
   refine Mx.gskip (t := 40) rfl rfl rfl (no_bool (by decide)) rfl rfl ?_
   refine Mx.gskip (t := 40) rfl rfl rfl (no_bool (by decide)) rfl rfl ?_
   refine Mx.gskip (t := 40) rfl rfl rfl (no_bool (by decide)) rfl rfl ?_
   refine Mx.gskip (t := 40) rfl rfl rfl (no_bool (by decide)) rfl rfl ?_
   refine Mx.gskip (t := 40) rfl rfl rfl (no_bool (by decide)) rfl rfl ?_
   refine Mx.gskip (t := 40) rfl rfl rfl (no_bool (by decide)) rfl rfl ?_
   refine Mx.gskipL (t := 40) rfl rfl rfl (no_bool (by decide)) rfl rfl ?_
   refine MxK.go [0] [0] [var g1 [.int .i64 r.d0, .int .i64 r.d1, .int .i64 r.d2, .int .i64 r.d3, .int .i64 r.d4, .int .i64 r.d5, .int .i64 r.d6, .int .i64 r.d7, .int .i64 r.d8, .int .i64 r.d9, .int .i64 r.d10, .int .i64 r.d11] 23] (by decide) rfl (by decide) rfl ?_
   refine Mx.gskip (t := 40) rfl rfl rfl (no_bool (by decide)) rfl rfl ?_
   refine Mx.gskip (t := 40) rfl rfl rfl (no_bool (by decide)) rfl rfl ?_
   refine Mx.p rfl (Pu.pickF rfl rfl rfl) rfl ?_
   refine Mx.p rfl (Pu.move rfl) rfl ?_
   refine Mx.gskip (t := 53) rfl rfl rfl (no_bool (by decide)) rfl rfl ?_
   refine Mx.gskip (t := 53) rfl rfl rfl (no_bool (by decide)) rfl rfl ?_
   refine Mx.gskip (t := 53) rfl rfl rfl (no_bool (by decide)) rfl rfl ?_
   refine Mx.gskip (t := 53) rfl rfl rfl (no_bool (by decide)) rfl rfl ?_
   refine Mx.gskip (t := 53) rfl rfl rfl (no_bool (by decide)) rfl rfl ?_
   refine Mx.gskip (t := 53) rfl rfl rfl (no_bool (by decide)) rfl rfl ?_
   refine Mx.gskip (t := 53) rfl rfl rfl (no_bool (by decide)) rfl rfl ?_
   refine Mx.gskip (t := 53) rfl rfl rfl (no_bool (by decide)) rfl rfl ?_
   refine Mx.p rfl (Pu.pickF rfl rfl rfl) rfl ?_
   refine Mx.p rfl (Pu.assign rfl) rfl ?_
   refine Mx.nil ?_
   exact J.ret (Fin.ret (rs := [.tmp 2]) rfl [_] ⟨rfl, trivial⟩ [] (by decide) [] rfl ⟨(by rw [Rp.right_all hst]; exact congrArg Value.bool (Eq.symm (by simp only [Bool.and_eq_false_iff, decide_eq_false_iff_not]; omega))), rfl⟩)

end Go.Proofs.YtnkhmbbnabejhaaGreatDoor
