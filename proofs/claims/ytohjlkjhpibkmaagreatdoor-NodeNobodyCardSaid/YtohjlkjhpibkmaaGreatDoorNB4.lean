/-
  Runs that are known throughout, printed by a program of mine.
-/
import Derived.KernelRfl
import Derived.Test.YtohjlkjhpibkmaaGreatDoorFo
import Derived.Test.YtohjlkjhpibkmaaGreatDoorLkG
import Derived.Test.YtohjlkjhpibkmaaGreatDoorNumsT
import Derived.Test.YtohjlkjhpibkmaaGreatDoorVXA
import Derived.Test.YtohjlkjhpibkmaaGreatDoorNB3
namespace Go.Proofs.YtohjlkjhpibkmaaGreatDoor
open Go Go.LK
set_option linter.unusedSimpArgs false
set_option linter.unusedVariables false

set_option maxRecDepth 100000 in
theorem nb194 (g228 : Nat) (g235 : Nat) (V230 : Value) (V233 : Value) (g240 : Nat) (g243 : Nat) (g246 : Nat) (b224 : Nat) (g225 : Nat) (g247 : Nat) (g236 : Nat) (g237 : Nat) (g238 : Nat) (g239 : Nat) : Tri Tryz.prog 82 #[.pointer (some ⟨g228, 0, none⟩), .agg #[.int .i64 2, .int .i64 (-1), .int .i64 0, .int .i64 3, .int .i64 50, .int .i64 9]] [] [var g228 [.pointer (some ⟨g235, 0, none⟩), .int .i64 2, .int .i64 4, .int .i64 1000, .int .u64 1, V230, .int .i64 0, .int .i64 1, .int .i64 1, .int .i64 10, .int .i64 1, .int .i64 64, .int .i64 20, .int .i64 1, .int .i64 4, .int .i64 10, .int .i64 5, .int .i64 1, .int .i64 3, .int .i64 2, V233, .int .i64 0, .int .i64 0, .int .i64 1, .int .i64 0, .pointer (some ⟨g240, 0, none⟩), .pointer (some ⟨g243, 0, none⟩), .pointer (some ⟨g246, 0, none⟩), .map (some b224), .pointer (some ⟨g225, 0, none⟩), .pointer (some ⟨g247, 0, none⟩)] 90, var g235 [.pointer (some ⟨g236, 0, none⟩), .pointer (some ⟨g237, 0, none⟩), .int .i64 8, .int .i64 1, .int .i64 1, .int .i64 4, .int .i64 10, .int .i64 5, .int .i64 1, .int .i64 3, .int .i64 2, .pointer (some ⟨g238, 0, none⟩), .pointer (some ⟨g239, 0, none⟩), .int .i64 8, .int .i64 1] 172] (fun v L' => v = .int .i64 0 ∧ L' = [var g228 [.pointer (some ⟨g235, 0, none⟩), .int .i64 2, .int .i64 4, .int .i64 1000, .int .u64 1, V230, .int .i64 0, .int .i64 1, .int .i64 1, .int .i64 10, .int .i64 1, .int .i64 64, .int .i64 20, .int .i64 1, .int .i64 4, .int .i64 10, .int .i64 5, .int .i64 1, .int .i64 3, .int .i64 2, V233, .int .i64 0, .int .i64 0, .int .i64 1, .int .i64 0, .pointer (some ⟨g240, 0, none⟩), .pointer (some ⟨g243, 0, none⟩), .pointer (some ⟨g246, 0, none⟩), .map (some b224), .pointer (some ⟨g225, 0, none⟩), .pointer (some ⟨g247, 0, none⟩)] 90, var g235 [.pointer (some ⟨g236, 0, none⟩), .pointer (some ⟨g237, 0, none⟩), .int .i64 8, .int .i64 1, .int .i64 1, .int .i64 4, .int .i64 10, .int .i64 5, .int .i64 1, .int .i64 3, .int .i64 2, .pointer (some ⟨g238, 0, none⟩), .pointer (some ⟨g239, 0, none⟩), .int .i64 8, .int .i64 1] 172]) := by
 refine Tri.en F82 rfl K82 rfl fun w0 => ?_
 refine J.co 2 rfl ?_
 refine O.l (Lo.bx rfl rfl) rfl ?_
 rintro _ _ ⟨g338, rfl, rfl⟩
 refine O.oc 5 rfl ?_
 refine J.drawStill Tryz.mixed (by kernel_rfl) ?_
 refine S.r 1 rfl ?_
 refine S.q (Qt.lv 0 A3 rfl rfl rfl) rfl ?_
 refine S.r 3 rfl ?_
 refine S.q (Qt.lv 1 A3 rfl rfl rfl) rfl ?_
 refine S.r 2 rfl ?_
 refine S.endJ ?_
 refine J.cc 2 rfl ?_
 refine J.drawTail 6 Tryz.mixed (by kernel_rfl) ?_
 refine S.r 3 rfl ?_
 refine S.q (Qt.lv 1 A82 rfl rfl rfl) rfl ?_
 refine S.r 1 rfl ?_
 refine S.q (Qt.lv 0 A3 rfl rfl rfl) rfl ?_
 refine S.endO ?_
 refine O.l (Lo.ca C179 (nb193 g235 g236 g237 g238 g239) [2] rfl rfl .nil) rfl ?_
 rintro _ _ ⟨_, ⟨rfl, rfl⟩, rfl⟩
 refine O.oc 10 rfl ?_
 exact J.r1 [2, 0] rfl rfl rfl ⟨rfl, rfl⟩

set_option maxRecDepth 100000 in
theorem nb195 (g228 : Nat) (g235 : Nat) (V230 : Value) (V233 : Value) (g240 : Nat) (g243 : Nat) (g246 : Nat) (b224 : Nat) (g225 : Nat) (g247 : Nat) : Tri Tryz.prog 42 #[.pointer (some ⟨g228, 0, none⟩)] [] [var g228 [.pointer (some ⟨g235, 0, none⟩), .int .i64 2, .int .i64 4, .int .i64 1000, .int .u64 1, V230, .int .i64 0, .int .i64 1, .int .i64 1, .int .i64 10, .int .i64 1, .int .i64 64, .int .i64 20, .int .i64 1, .int .i64 4, .int .i64 10, .int .i64 5, .int .i64 1, .int .i64 3, .int .i64 2, V233, .int .i64 0, .int .i64 0, .int .i64 1, .int .i64 0, .pointer (some ⟨g240, 0, none⟩), .pointer (some ⟨g243, 0, none⟩), .pointer (some ⟨g246, 0, none⟩), .map (some b224), .pointer (some ⟨g225, 0, none⟩), .pointer (some ⟨g247, 0, none⟩)] 90] (fun v L' => v = .pointer (some ⟨g235, 0, none⟩) ∧ L' = [var g228 [.pointer (some ⟨g235, 0, none⟩), .int .i64 2, .int .i64 4, .int .i64 1000, .int .u64 1, V230, .int .i64 0, .int .i64 1, .int .i64 1, .int .i64 10, .int .i64 1, .int .i64 64, .int .i64 20, .int .i64 1, .int .i64 4, .int .i64 10, .int .i64 5, .int .i64 1, .int .i64 3, .int .i64 2, V233, .int .i64 0, .int .i64 0, .int .i64 1, .int .i64 0, .pointer (some ⟨g240, 0, none⟩), .pointer (some ⟨g243, 0, none⟩), .pointer (some ⟨g246, 0, none⟩), .map (some b224), .pointer (some ⟨g225, 0, none⟩), .pointer (some ⟨g247, 0, none⟩)] 90]) := by
 refine Tri.en F42 rfl K42 rfl fun w0 => ?_
 refine J.co 8 rfl ?_
 refine O.p (Pu.someEq N29 rfl) rfl ?_
 refine O.oo 8 rfl ?_
 refine O.q (Qt.lv 0 A82 rfl rfl rfl) rfl ?_
 refine O.oc 2 rfl ?_
 exact J.r1 [0] rfl rfl rfl ⟨rfl, rfl⟩

set_option maxRecDepth 100000 in
theorem nb196 (g228 : Nat) (g235 : Nat) (V230 : Value) (V233 : Value) (g240 : Nat) (g243 : Nat) (g246 : Nat) (b224 : Nat) (g225 : Nat) (g247 : Nat) (g236 : Nat) (g237 : Nat) (g238 : Nat) (g239 : Nat) : Tri Tryz.prog 18 #[.pointer (some ⟨g228, 0, none⟩)] [] [var g228 [.pointer (some ⟨g235, 0, none⟩), .int .i64 2, .int .i64 4, .int .i64 1000, .int .u64 1, V230, .int .i64 0, .int .i64 1, .int .i64 1, .int .i64 10, .int .i64 1, .int .i64 64, .int .i64 20, .int .i64 1, .int .i64 4, .int .i64 10, .int .i64 5, .int .i64 1, .int .i64 3, .int .i64 2, V233, .int .i64 0, .int .i64 0, .int .i64 1, .int .i64 0, .pointer (some ⟨g240, 0, none⟩), .pointer (some ⟨g243, 0, none⟩), .pointer (some ⟨g246, 0, none⟩), .map (some b224), .pointer (some ⟨g225, 0, none⟩), .pointer (some ⟨g247, 0, none⟩)] 90, var g235 [.pointer (some ⟨g236, 0, none⟩), .pointer (some ⟨g237, 0, none⟩), .int .i64 8, .int .i64 1, .int .i64 1, .int .i64 4, .int .i64 10, .int .i64 5, .int .i64 1, .int .i64 3, .int .i64 2, .pointer (some ⟨g238, 0, none⟩), .pointer (some ⟨g239, 0, none⟩), .int .i64 8, .int .i64 1] 172] (fun v L' => v = .int .i64 8 ∧ L' = [var g228 [.pointer (some ⟨g235, 0, none⟩), .int .i64 2, .int .i64 4, .int .i64 1000, .int .u64 1, V230, .int .i64 0, .int .i64 1, .int .i64 1, .int .i64 10, .int .i64 1, .int .i64 64, .int .i64 20, .int .i64 1, .int .i64 4, .int .i64 10, .int .i64 5, .int .i64 1, .int .i64 3, .int .i64 2, V233, .int .i64 0, .int .i64 0, .int .i64 1, .int .i64 0, .pointer (some ⟨g240, 0, none⟩), .pointer (some ⟨g243, 0, none⟩), .pointer (some ⟨g246, 0, none⟩), .map (some b224), .pointer (some ⟨g225, 0, none⟩), .pointer (some ⟨g247, 0, none⟩)] 90, var g235 [.pointer (some ⟨g236, 0, none⟩), .pointer (some ⟨g237, 0, none⟩), .int .i64 8, .int .i64 1, .int .i64 1, .int .i64 4, .int .i64 10, .int .i64 5, .int .i64 1, .int .i64 3, .int .i64 2, .pointer (some ⟨g238, 0, none⟩), .pointer (some ⟨g239, 0, none⟩), .int .i64 8, .int .i64 1] 172]) := by
 refine Tri.en F18 rfl K18 rfl fun w0 => ?_
 refine J.co 7 rfl ?_
 refine O.l (Lo.ca C42 (nb195 g228 g235 V230 V233 g240 g243 g246 b224 g225 g247) [0] rfl rfl .nil) rfl ?_
 rintro _ _ ⟨_, ⟨rfl, rfl⟩, rfl⟩
 refine O.l (Lo.ca C44 (nb133 g235 g236 g237 g238 g239) [1] rfl rfl .nil) rfl ?_
 rintro _ _ ⟨_, ⟨rfl, rfl⟩, rfl⟩
 refine O.oc 2 rfl ?_
 exact J.r1 [1, 0] rfl rfl rfl ⟨rfl, rfl⟩

set_option maxRecDepth 100000 in
theorem nb197 (g323 : Nat) (g228 : Nat) (g235 : Nat) (V230 : Value) (V233 : Value) (g240 : Nat) (g243 : Nat) (g246 : Nat) (b224 : Nat) (g225 : Nat) (g247 : Nat) : Tri Tryz.prog 80 #[.pointer (some ⟨g323, 0, none⟩), .int .i64 1, .int .i64 2, .int .i64 0, .int .i64 3, .int .i64 8] [] [var g323 [.pointer (some ⟨g228, 0, none⟩), Value.slice none 0 0, Value.slice none 0 0] 261, var g228 [.pointer (some ⟨g235, 0, none⟩), .int .i64 2, .int .i64 4, .int .i64 1000, .int .u64 1, V230, .int .i64 0, .int .i64 1, .int .i64 1, .int .i64 10, .int .i64 1, .int .i64 64, .int .i64 20, .int .i64 1, .int .i64 4, .int .i64 10, .int .i64 5, .int .i64 1, .int .i64 3, .int .i64 2, V233, .int .i64 0, .int .i64 0, .int .i64 1, .int .i64 0, .pointer (some ⟨g240, 0, none⟩), .pointer (some ⟨g243, 0, none⟩), .pointer (some ⟨g246, 0, none⟩), .map (some b224), .pointer (some ⟨g225, 0, none⟩), .pointer (some ⟨g247, 0, none⟩)] 90] (fun v L' => ∃ (V340 : Value), v = .tuple #[] ∧ L' = [var g323 [.pointer (some ⟨g228, 0, none⟩), V340, Value.slice none 0 0] 261, var g228 [.pointer (some ⟨g235, 0, none⟩), .int .i64 2, .int .i64 4, .int .i64 1000, .int .u64 1, V230, .int .i64 0, .int .i64 1, .int .i64 1, .int .i64 10, .int .i64 1, .int .i64 64, .int .i64 20, .int .i64 1, .int .i64 4, .int .i64 10, .int .i64 5, .int .i64 1, .int .i64 3, .int .i64 2, V233, .int .i64 0, .int .i64 0, .int .i64 1, .int .i64 0, .pointer (some ⟨g240, 0, none⟩), .pointer (some ⟨g243, 0, none⟩), .pointer (some ⟨g246, 0, none⟩), .map (some b224), .pointer (some ⟨g225, 0, none⟩), .pointer (some ⟨g247, 0, none⟩)] 90, row V340 51 7 ([[.int .i64 1, .int .i64 0, .int .i64 0, .int .i64 2, .int .i64 0, .int .i64 3, .int .i64 8]].map id)]) := by
 refine Tri.en F80 rfl K80 rfl fun w0 => ?_
 refine J.dm [(0, false), (1, false), (2, false), (3, false), (4, false), (5, false), (6, false), (7, false), (8, false), (9, false), (10, false), (11, false), (12, false), (13, false), (14, false), (15, false), (16, false), (17, false), (18, false), (19, false), (20, false), (21, false), (22, false), (23, false), (24, false), (25, false), (26, true), (27, true), (28, false), (29, false), (30, false), (31, true)] [0, 1] Tryz.mixed (by kernel_rfl) rfl ?_
 refine Mx.r 5 rfl ?_
 refine Mx.q rfl (Qt.lv 0 A33 rfl rfl rfl) rfl ?_
 refine Mx.r 4 rfl ?_
 refine Mx.q rfl (Qt.lv 0 A29 rfl rfl rfl) rfl ?_
 refine Mx.r 2 rfl ?_
 refine Mx.q rfl (Qt.lv 1 A3 rfl rfl rfl) rfl ?_
 refine Mx.r 3 rfl ?_
 refine Mx.q rfl (Qt.lv 0 A29 rfl rfl rfl) rfl ?_
 refine Mx.r 2 rfl ?_
 refine Mx.q rfl (Qt.lv 1 A3 rfl rfl rfl) rfl ?_
 refine Mx.r 4 rfl ?_
 refine Mx.p rfl (Pu.build [(0, .int .i64 1), (1, .int .i64 0), (2, .int .i64 0), (3, .int .i64 2), (4, .int .i64 0), (5, .int .i64 3), (6, .int .i64 8)] [.int .i64 1, .int .i64 0, .int .i64 0, .int .i64 2, .int .i64 0, .int .i64 3, .int .i64 8] #[(0, 1), (1, 1), (2, 1), (3, 1), (4, 1), (5, 1), (6, 1)] U51 Y51 (places51 N51) rfl (by kernel_rfl)) rfl ?_
 refine Mx.l rfl (Lo.bm id [[.int .i64 1, .int .i64 0, .int .i64 0, .int .i64 2, .int .i64 0, .int .i64 3, .int .i64 8]] U33 Z51 Y51 rfl rfl rfl (by kernel_rfl) rfl rfl) rfl ?_
 rintro V339 _ rfl
 refine MxK.gp [1, 2] [0, 1] rfl rfl ?_
 refine Mx.nr 51 7 (([] : List (List Value)).map id) rfl rfl rfl ?_
 refine Mx.l rfl (Lo.am 0 N33 info51 rfl rfl rfl rfl rfl (Src.row 1 rfl) (id_one rfl) (Nat.le_of_ble_eq_true rfl) (Nat.le_of_ble_eq_true rfl)) rfl ?_
 rintro V340 _ rfl
 refine MxK.gp [2, 3] [0, 1] rfl rfl ?_
 refine Mx.r 3 rfl ?_
 refine Mx.one rfl (fun _ h => by cases h <;> rfl) (Src.row 0 rfl) (fun hV341 => ?_)
 refine Mx.l0 rfl (Lo.so 2 Z33 hV341 rfl rfl rfl rfl) ?_
 rintro _ _ rfl
 refine MxK.al [2, 3] rfl (by kernel_rfl) ?_
 refine Mx.nil ?_
 exact J.dn [] [2, 3, 0] rfl trivial rfl ⟨V340, rfl, rfl⟩

set_option maxRecDepth 100000 in
theorem nb198 : Tri Tryz.prog 84 #[.agg #[.int .i64 2, .int .i64 (-1), .int .i64 0, .int .i64 3, .int .i64 50, .int .i64 9], .int .i64 0, .int .i64 2] [] [] (fun v L' => v = .agg #[.int .i64 2, .int .i64 3, .int .i64 (-1), .int .i64 50, .int .i64 9, .int .i64 0, .int .i64 2] ∧ L' = []) := by
 refine Tri.en F84 rfl K84 rfl fun w0 => ?_
 refine J.co 2 rfl ?_
 refine O.l (Lo.bx rfl rfl) rfl ?_
 rintro _ _ ⟨g344, rfl, rfl⟩
 refine O.l (Lo.al Y66 rfl) rfl ?_
 rintro _ _ ⟨g345, rfl, rfl⟩
 refine O.oo 4 rfl ?_
 refine O.q (Qt.lv 1 A3 rfl rfl rfl) rfl ?_
 refine O.oo 1 rfl ?_
 refine O.q (Qt.lv 1 A3 rfl rfl rfl) rfl ?_
 refine O.oo 1 rfl ?_
 refine O.q (Qt.lv 1 A3 rfl rfl rfl) rfl ?_
 refine O.oo 1 rfl ?_
 refine O.q (Qt.lv 1 A3 rfl rfl rfl) rfl ?_
 refine O.oo 1 rfl ?_
 refine O.q (Qt.lv 1 A3 rfl rfl rfl) rfl ?_
 refine O.oo 2 rfl ?_
 refine O.p (Pu.build [(0, .int .i64 2), (1, .int .i64 3), (2, .int .i64 (-1)), (3, .int .i64 50), (4, .int .i64 9), (5, .int .i64 0), (6, .int .i64 2)] [.int .i64 2, .int .i64 3, .int .i64 (-1), .int .i64 50, .int .i64 9, .int .i64 0, .int .i64 2] #[(0, 1), (1, 1), (2, 1), (3, 1), (4, 1), (5, 1), (6, 1)] U66 Y66 (places66 N66) rfl (by kernel_rfl)) rfl ?_
 refine O.l0 (Lo.st 0 Z66 rfl rfl rfl rfl rfl rfl rfl) ?_
 rintro _ _ rfl
 refine O.oc 1 rfl ?_
 exact J.rn [_] [] rfl ⟨⟨_, _, 0, 0, _, rfl, Cel.var 0 rfl, rfl, Cut.agg _ A66 Z66 rfl rfl⟩, trivial⟩ rfl ⟨rfl, rfl⟩

set_option maxRecDepth 100000 in
theorem nb199 (g244 : Nat) (b245 : Nat) (V351 : Value) : Tri Tryz.prog 316 #[.pointer (some ⟨g244, 0, none⟩), .int .i64 0, .agg #[.int .i64 2, .int .i64 3, .int .i64 (-1), .int .i64 50, .int .i64 9, .int .i64 0, .int .i64 2]] [] [var g244 [.map (some b245), .int .i64 1, V351] 294, row V351 66 7 ([[.int .i64 2, .int .i64 3, .int .i64 (-1), .int .i64 50, .int .i64 9, .int .i64 0, .int .i64 2]].map id), mi b245 (Value.int .i64) ([] : List (Int × Int))] (fun v L' => v = .tuple #[] ∧ L' = [var g244 [.map (some b245), .int .i64 1, V351] 294, row V351 66 7 ([[.int .i64 2, .int .i64 3, .int .i64 (-1), .int .i64 50, .int .i64 9, .int .i64 0, .int .i64 2]].map id), mi b245 (Value.int .i64) [(2, 0)]]) := by
 refine Tri.en F316 rfl K316 rfl fun w0 => ?_
 refine J.co 2 rfl ?_
 refine O.l (Lo.bx rfl rfl) rfl ?_
 rintro _ _ ⟨g353, rfl, rfl⟩
 refine O.oc 1 rfl ?_
 refine J.dm [(0, false), (1, false), (2, false), (3, false), (4, false), (5, false), (6, false), (7, false), (8, false), (9, false), (10, false), (11, false), (12, false), (13, false), (14, false), (15, true), (16, true), (17, false), (18, true)] [0, 1, 2] Tryz.mixed (by kernel_rfl) rfl ?_
 refine Mx.r 3 rfl ?_
 refine Mx.q rfl (Qt.lv 1 A52 rfl rfl rfl) rfl ?_
 refine Mx.r 5 rfl ?_
 refine Mx.q rfl (Qt.lv 1 A178 rfl rfl rfl) rfl ?_
 refine Mx.r 1 rfl ?_
 refine Mx.q rfl (Qt.lv 0 A3 rfl rfl rfl) rfl ?_
 refine Mx.q rfl (Qt.lva 0 A66 Z66 rfl rfl rfl) rfl ?_
 refine Mx.r 1 rfl ?_
 refine Mx.q rfl (Qt.ix U52 Z66 rfl (Src.row 2 rfl) (j := 0) (a := [.int .i64 2, .int .i64 3, .int .i64 (-1), .int .i64 50, .int .i64 9, .int .i64 0, .int .i64 2]) rfl rfl rfl) rfl ?_
 refine Mx.l0 rfl (Lo.storeM 2 (j := 0) (off := 0) (vs := [.int .i64 2, .int .i64 3, .int .i64 (-1), .int .i64 50, .int .i64 9, .int .i64 0, .int .i64 2]) (e := [.int .i64 2, .int .i64 3, .int .i64 (-1), .int .i64 50, .int .i64 9, .int .i64 0, .int .i64 2]) [.int .i64 2, .int .i64 3, .int .i64 (-1), .int .i64 50, .int .i64 9, .int .i64 0, .int .i64 2] rfl rfl rfl rfl (by omega) rfl rfl Z66 rfl rfl rfl rfl rfl) ?_
 rintro _ _ rfl
 refine MxK.gp [0, 1, 2] [0, 1, 2] rfl rfl ?_
 refine Mx.l rfl (Lo.mapEnt 3 N178 N3 Y3 rfl rfl rfl) rfl ?_
 rintro _ _ ⟨V354, x355, rfl, rfl⟩
 refine MxK.gp [0, 1, 2] [0, 1, 2] rfl rfl ?_
 refine Mx.r 1 rfl ?_
 refine Mx.l0 rfl (Lo.entSt (u := 0) 3 rfl rfl rfl rfl) ?_
 rintro _ _ rfl
 refine MxK.al [0, 1, 2] rfl (by kernel_rfl) ?_
 refine Mx.nil ?_
 exact J.dn [] [1, 2, 3] rfl trivial rfl ⟨rfl, rfl⟩

set_option maxRecDepth 100000 in
theorem nb200 (g244 : Nat) (b245 : Nat) (V288 : Value) : Tri Tryz.prog 263 #[.pointer (some ⟨g244, 0, none⟩), .agg #[.int .i64 2, .int .i64 3, .int .i64 (-1), .int .i64 50, .int .i64 9, .int .i64 0, .int .i64 2]] [] [var g244 [.map (some b245), .int .i64 1, vcut V288 7 0 (0 : Int).toNat] 294, mi b245 (Value.int .i64) ([] : List (Int × Int)), row (vcut V288 7 0 (0 : Int).toNat) 66 7 (([] : List (List Value)).map id)] (fun v L' => ∃ (V351 : Value), v = .int .i64 0 ∧ L' = [var g244 [.map (some b245), .int .i64 1, V351] 294, mi b245 (Value.int .i64) [(2, 0)], row V351 66 7 ([[.int .i64 2, .int .i64 3, .int .i64 (-1), .int .i64 50, .int .i64 9, .int .i64 0, .int .i64 2]].map id)]) := by
 refine Tri.en F263 rfl K263 rfl fun w0 => ?_
 refine J.co 2 rfl ?_
 refine O.l (Lo.bx rfl rfl) rfl ?_
 rintro _ _ ⟨g348, rfl, rfl⟩
 refine O.oo 7 rfl ?_
 refine O.q (Qt.lv 0 A3 rfl rfl rfl) rfl ?_
 refine O.l (Lo.ca C259 (nb182 g244 b245 V288) [1, 2] rfl rfl .nil) rfl ?_
 rintro _ _ ⟨_, ⟨rfl, rfl⟩, rfl⟩
 refine O.oo 3 rfl ?_
 refine O.l (Lo.al Y66 rfl) rfl ?_
 rintro _ _ ⟨g349, rfl, rfl⟩
 refine O.l0 (Lo.st 0 Z66 rfl rfl rfl rfl rfl rfl rfl) ?_
 rintro _ _ rfl
 refine O.oc 10 rfl ?_
 refine J.drawStill Tryz.mixed (by kernel_rfl) ?_
 refine S.r 1 rfl ?_
 refine S.p (Pu.someEq N163 rfl) rfl ?_
 refine S.r 4 rfl ?_
 refine S.gz (Qt.lv 1 A52 rfl rfl rfl) rfl rfl ?_
 refine S.gz (Qt.lenM U52 rfl (Src.row 4 rfl)) rfl rfl ?_
 refine S.r 3 rfl ?_
 refine S.gz (Qt.lv 1 A3 rfl rfl rfl) rfl rfl ?_
 refine S.r 2 rfl ?_
 refine S.endJ ?_
 refine J.cc 3 rfl ?_
 refine J.dm [(0, false), (1, false), (2, false), (3, false), (4, false), (5, false), (6, true), (7, true), (8, false), (9, false), (10, true)] [1, 3] Tryz.mixed (by kernel_rfl) rfl ?_
 refine Mx.r 4 rfl ?_
 refine Mx.q rfl (Qt.lv 0 A52 rfl rfl rfl) rfl ?_
 refine Mx.q rfl (Qt.lva 1 A66 Z66 rfl rfl rfl) rfl ?_
 refine Mx.l rfl (Lo.bm id [[.int .i64 2, .int .i64 3, .int .i64 (-1), .int .i64 50, .int .i64 9, .int .i64 0, .int .i64 2]] U52 Z66 Y66 rfl rfl rfl (by kernel_rfl) rfl rfl) rfl ?_
 rintro V350 _ rfl
 refine MxK.gp [2, 4] [0, 1] rfl rfl ?_
 refine Mx.l rfl (Lo.am 5 N52 info66 rfl rfl rfl rfl rfl (Src.row 0 rfl) (id_one rfl) (Nat.le_of_ble_eq_true rfl) (Nat.le_of_ble_eq_true rfl)) rfl ?_
 rintro V351 _ rfl
 refine MxK.al [2, 4] rfl (by kernel_rfl) ?_
 refine Mx.r 2 rfl ?_
 refine Mx.one rfl (fun _ h => by cases h <;> rfl) (Src.row 5 rfl) (fun hV352 => ?_)
 refine Mx.l0 rfl (Lo.so 2 Z52 hV352 rfl rfl rfl rfl) ?_
 rintro _ _ rfl
 refine MxK.al [2, 4] rfl (by kernel_rfl) ?_
 refine Mx.nil ?_
 refine J.cc 1 rfl ?_
 refine J.drawTail 8 Tryz.mixed (by kernel_rfl) ?_
 refine S.r 4 rfl ?_
 refine S.q (Qt.lv 2 A52 rfl rfl rfl) rfl ?_
 refine S.q (Qt.lenM U52 rfl (Src.row 5 rfl)) rfl ?_
 refine S.p (Pu.sub' rfl rfl (by decide)) rfl ?_
 refine S.q (Qt.lva 4 A66 Z66 rfl rfl rfl) rfl ?_
 refine S.endO ?_
 refine O.l (Lo.ca C316 (nb199 g244 b245 V351) [2, 5, 3] rfl rfl .nil) rfl ?_
 rintro _ _ ⟨_, ⟨rfl, rfl⟩, rfl⟩
 refine O.oo 7 rfl ?_
 refine O.q (Qt.lv 0 A52 rfl rfl rfl) rfl ?_
 refine O.q (Qt.lenM U52 rfl (Src.row 1 rfl)) rfl ?_
 refine O.p (Pu.sub' rfl rfl (by decide)) rfl ?_
 refine O.l (Lo.ca C317 (nb142 g244) [] rfl rfl .nil) rfl ?_
 rintro _ _ ⟨_, ⟨rfl, rfl⟩, rfl⟩
 refine O.oc 5 rfl ?_
 exact J.r1 [0, 2, 1] rfl rfl rfl ⟨V351, rfl, rfl⟩

set_option maxRecDepth 100000 in
theorem nb201 (g243 : Nat) (g244 : Nat) (b245 : Nat) (V288 : Value) : Tri Tryz.prog 182 #[.pointer (some ⟨g243, 0, none⟩), .agg #[.int .i64 2, .int .i64 3, .int .i64 (-1), .int .i64 50, .int .i64 9, .int .i64 0, .int .i64 2]] [] [var g243 [.pointer (some ⟨g244, 0, none⟩), .int .i64 1] 206, var g244 [.map (some b245), .int .i64 1, vcut V288 7 0 (0 : Int).toNat] 294, mi b245 (Value.int .i64) ([] : List (Int × Int)), row (vcut V288 7 0 (0 : Int).toNat) 66 7 (([] : List (List Value)).map id)] (fun v L' => ∃ (V351 : Value), v = .tuple #[.agg #[.int .i64 0, .int .i64 0, .int .i64 0, .int .i64 0, .int .i64 0, .int .i64 0, .int .i64 0], .bool false, .int .i64 0] ∧ L' = [var g243 [.pointer (some ⟨g244, 0, none⟩), .int .i64 1] 206, var g244 [.map (some b245), .int .i64 1, V351] 294, mi b245 (Value.int .i64) [(2, 0)], row V351 66 7 ([[.int .i64 2, .int .i64 3, .int .i64 (-1), .int .i64 50, .int .i64 9, .int .i64 0, .int .i64 2]].map id)]) := by
 refine Tri.en F182 rfl K182 rfl fun w0 => ?_
 refine J.co 2 rfl ?_
 refine O.l (Lo.bx rfl rfl) rfl ?_
 rintro _ _ ⟨g346, rfl, rfl⟩
 refine O.l (Lo.al Y66 rfl) rfl ?_
 rintro _ _ ⟨g347, rfl, rfl⟩
 refine O.oo 6 rfl ?_
 refine O.l (Lo.ca C114 (nb115 g243 g244) [2] rfl rfl .nil) rfl ?_
 rintro _ _ ⟨_, ⟨rfl, rfl⟩, rfl⟩
 refine O.oo 6 rfl ?_
 refine O.q (Qt.lva 2 A66 Z66 rfl rfl rfl) rfl ?_
 refine O.l (Lo.ca C263 (nb200 g244 b245 V288) [3, 4, 5] rfl rfl .nil) rfl ?_
 rintro _ _ ⟨_, ⟨V351, rfl, rfl⟩, rfl⟩
 refine O.oo 10 rfl ?_
 refine O.p (Pu.build [] [.int .i64 0, .int .i64 0, .int .i64 0, .int .i64 0, .int .i64 0, .int .i64 0, .int .i64 0] #[(0, 1), (1, 1), (2, 1), (3, 1), (4, 1), (5, 1), (6, 1)] U66 Y66 (places66 N66) rfl (by kernel_rfl)) rfl ?_
 refine O.l0 (Lo.st 4 Z66 rfl rfl rfl rfl rfl rfl rfl) ?_
 rintro _ _ rfl
 refine O.oc 3 rfl ?_
 exact J.rn [_, _, _] [3, 0, 1, 2] rfl ⟨⟨_, _, 0, 0, _, rfl, Cel.var 4 rfl, rfl, Cut.agg _ A66 Z66 rfl rfl⟩, rfl, rfl, trivial⟩ rfl ⟨V351, rfl, rfl⟩

set_option maxRecDepth 100000 in
theorem nb202 (g323 : Nat) (g228 : Nat) (V340 : Value) (g235 : Nat) (V230 : Value) (V233 : Value) (g240 : Nat) (g243 : Nat) (g246 : Nat) (b224 : Nat) (g225 : Nat) (g247 : Nat) (g244 : Nat) (b245 : Nat) (V288 : Value) : Tri Tryz.prog 85 #[.pointer (some ⟨g323, 0, none⟩), .agg #[.int .i64 2, .int .i64 (-1), .int .i64 0, .int .i64 3, .int .i64 50, .int .i64 9]] [] [var g323 [.pointer (some ⟨g228, 0, none⟩), V340, Value.slice none 0 0] 261, var g228 [.pointer (some ⟨g235, 0, none⟩), .int .i64 2, .int .i64 4, .int .i64 1000, .int .u64 1, V230, .int .i64 0, .int .i64 1, .int .i64 1, .int .i64 10, .int .i64 1, .int .i64 64, .int .i64 20, .int .i64 1, .int .i64 4, .int .i64 10, .int .i64 5, .int .i64 1, .int .i64 3, .int .i64 2, V233, .int .i64 0, .int .i64 0, .int .i64 1, .int .i64 0, .pointer (some ⟨g240, 0, none⟩), .pointer (some ⟨g243, 0, none⟩), .pointer (some ⟨g246, 0, none⟩), .map (some b224), .pointer (some ⟨g225, 0, none⟩), .pointer (some ⟨g247, 0, none⟩)] 90, var g243 [.pointer (some ⟨g244, 0, none⟩), .int .i64 1] 206, var g244 [.map (some b245), .int .i64 1, vcut V288 7 0 (0 : Int).toNat] 294, mi b245 (Value.int .i64) ([] : List (Int × Int)), row (vcut V288 7 0 (0 : Int).toNat) 66 7 (([] : List (List Value)).map id)] (fun v L' => ∃ (V358 : Value), v = .tuple #[] ∧ L' = [var g323 [.pointer (some ⟨g228, 0, none⟩), V340, Value.slice none 0 0] 261, var g228 [.pointer (some ⟨g235, 0, none⟩), .int .i64 2, .int .i64 4, .int .i64 1000, .int .u64 1, V230, .int .i64 0, .int .i64 1, .int .i64 1, .int .i64 10, .int .i64 1, .int .i64 64, .int .i64 20, .int .i64 1, .int .i64 4, .int .i64 10, .int .i64 5, .int .i64 1, .int .i64 3, .int .i64 2, V233, .int .i64 0, .int .i64 0, .int .i64 2, .int .i64 0, .pointer (some ⟨g240, 0, none⟩), .pointer (some ⟨g243, 0, none⟩), .pointer (some ⟨g246, 0, none⟩), .map (some b224), .pointer (some ⟨g225, 0, none⟩), .pointer (some ⟨g247, 0, none⟩)] 90, var g243 [.pointer (some ⟨g244, 0, none⟩), .int .i64 1] 206, var g244 [.map (some b245), .int .i64 1, V358] 294, mi b245 (Value.int .i64) [(2, 0)], row V358 66 7 ([[.int .i64 2, .int .i64 3, .int .i64 (-1), .int .i64 50, .int .i64 9, .int .i64 0, .int .i64 2]].map id)]) := by
 refine Tri.en F85 rfl K85 rfl fun w0 => ?_
 refine J.co 2 rfl ?_
 refine O.l (Lo.bx rfl rfl) rfl ?_
 rintro _ _ ⟨g342, rfl, rfl⟩
 refine O.oo 6 rfl ?_
 refine O.q (Qt.lv 1 A29 rfl rfl rfl) rfl ?_
 refine O.oo 7 rfl ?_
 refine O.q (Qt.lv 2 A3 rfl rfl rfl) rfl ?_
 refine O.p (Pu.add' rfl rfl (by decide)) rfl ?_
 refine O.oo 2 rfl ?_
 refine O.l0 (Lo.st 2 Z3 rfl rfl rfl rfl rfl rfl rfl) ?_
 rintro _ _ rfl
 refine O.oc 2 rfl ?_
 refine J.drawA Tryz.mixed ?_
 refine A.edge 13 19 rfl ?_ ?_
 ·
  refine A.mx [(0, false), (1, false), (2, false), (3, false), (4, false), (5, false), (6, false), (7, false), (8, false), (9, false), (10, false), (11, false), (12, false), (19, true), (13, true), (14, true), (15, false), (16, false), (17, false), (18, false), (20, true), (21, false), (22, false)] [0, 2] (by kernel_rfl) rfl ?_
  refine Mx.r 3 rfl ?_
  refine Mx.q rfl (Qt.lv 1 A84 rfl rfl rfl) rfl ?_
  refine Mx.q rfl (Qt.lva 0 A41 Z41 rfl rfl rfl) rfl ?_
  refine Mx.r 3 rfl ?_
  refine Mx.q rfl (Qt.lv 1 A3 rfl rfl rfl) rfl ?_
  refine Mx.r 3 rfl ?_
  refine Mx.q rfl (Qt.lv 1 A3 rfl rfl rfl) rfl ?_
  refine Mx.l rfl (Lo.al Y66 rfl) rfl ?_
  rintro _ _ ⟨g343, rfl, rfl⟩
  refine MxK.gp [1, 3] [0, 1] rfl rfl ?_
  refine Mx.l rfl (Lo.ca C84 nb198 [] rfl rfl .nil) rfl ?_
  rintro _ _ ⟨_, ⟨rfl, rfl⟩, rfl⟩
  refine MxK.gp [1, 3] [0, 1] rfl rfl ?_
  refine Mx.l rfl (Lo.ca C182 (nb201 g243 g244 b245 V288) [4, 5, 6, 7] rfl rfl .nil) rfl ?_
  rintro _ _ ⟨_, ⟨V351, rfl, rfl⟩, rfl⟩
  refine MxK.gp [5, 7] [0, 1] rfl rfl ?_
  refine Mx.r 4 rfl ?_
  refine Mx.l0 rfl (Lo.st 4 Z66 rfl rfl rfl rfl rfl rfl rfl) ?_
  rintro _ _ rfl
  refine MxK.al [5, 7] rfl (by kernel_rfl) ?_
  refine Mx.r 2 rfl ?_
  refine Mx.nil ?_
  refine J.cc 6 rfl ?_
  exact J.dn [] [6, 7, 0, 1, 2, 3] rfl trivial rfl ⟨V351, rfl, rfl⟩
 ·
  refine A.edge 14 19 rfl ?_ ?_
  ·
   refine A.mx [(0, false), (1, false), (2, false), (3, false), (4, false), (5, false), (6, false), (7, false), (8, false), (9, false), (10, false), (11, false), (12, false), (13, true), (19, true), (14, true), (15, false), (16, false), (17, false), (18, false), (20, true), (21, false), (22, false)] [0, 2] (by kernel_rfl) rfl ?_
   refine Mx.r 3 rfl ?_
   refine Mx.q rfl (Qt.lv 1 A84 rfl rfl rfl) rfl ?_
   refine Mx.q rfl (Qt.lva 0 A41 Z41 rfl rfl rfl) rfl ?_
   refine Mx.r 3 rfl ?_
   refine Mx.q rfl (Qt.lv 1 A3 rfl rfl rfl) rfl ?_
   refine Mx.r 3 rfl ?_
   refine Mx.q rfl (Qt.lv 1 A3 rfl rfl rfl) rfl ?_
   refine Mx.l rfl (Lo.ca C84 nb198 [] rfl rfl .nil) rfl ?_
   rintro _ _ ⟨_, ⟨rfl, rfl⟩, rfl⟩
   refine MxK.gp [0, 2] [0, 1] rfl rfl ?_
   refine Mx.l rfl (Lo.al Y66 rfl) rfl ?_
   rintro _ _ ⟨g356, rfl, rfl⟩
   refine MxK.gp [1, 3] [0, 1] rfl rfl ?_
   refine Mx.l rfl (Lo.ca C182 (nb201 g243 g244 b245 V288) [4, 5, 6, 7] rfl rfl .nil) rfl ?_
   rintro _ _ ⟨_, ⟨V357, rfl, rfl⟩, rfl⟩
   refine MxK.gp [5, 7] [0, 1] rfl rfl ?_
   refine Mx.r 4 rfl ?_
   refine Mx.l0 rfl (Lo.st 4 Z66 rfl rfl rfl rfl rfl rfl rfl) ?_
   rintro _ _ rfl
   refine MxK.al [5, 7] rfl (by kernel_rfl) ?_
   refine Mx.r 2 rfl ?_
   refine Mx.nil ?_
   refine J.cc 6 rfl ?_
   exact J.dn [] [6, 7, 0, 1, 2, 3] rfl trivial rfl ⟨V357, rfl, rfl⟩
  ·
   refine A.mx [(0, false), (1, false), (2, false), (3, false), (4, false), (5, false), (6, false), (7, false), (8, false), (9, false), (10, false), (11, false), (12, false), (13, true), (14, true), (15, false), (16, false), (17, false), (18, false), (19, true), (20, true), (21, false), (22, false)] [0, 2] (by kernel_rfl) rfl ?_
   refine Mx.r 3 rfl ?_
   refine Mx.q rfl (Qt.lv 1 A84 rfl rfl rfl) rfl ?_
   refine Mx.q rfl (Qt.lva 0 A41 Z41 rfl rfl rfl) rfl ?_
   refine Mx.r 3 rfl ?_
   refine Mx.q rfl (Qt.lv 1 A3 rfl rfl rfl) rfl ?_
   refine Mx.r 3 rfl ?_
   refine Mx.q rfl (Qt.lv 1 A3 rfl rfl rfl) rfl ?_
   refine Mx.l rfl (Lo.ca C84 nb198 [] rfl rfl .nil) rfl ?_
   rintro _ _ ⟨_, ⟨rfl, rfl⟩, rfl⟩
   refine MxK.gp [0, 2] [0, 1] rfl rfl ?_
   refine Mx.l rfl (Lo.ca C182 (nb201 g243 g244 b245 V288) [3, 4, 5, 6] rfl rfl .nil) rfl ?_
   rintro _ _ ⟨_, ⟨V358, rfl, rfl⟩, rfl⟩
   refine MxK.gp [4, 6] [0, 1] rfl rfl ?_
   refine Mx.r 4 rfl ?_
   refine Mx.l rfl (Lo.al Y66 rfl) rfl ?_
   rintro _ _ ⟨g359, rfl, rfl⟩
   refine MxK.gp [5, 7] [0, 1] rfl rfl ?_
   refine Mx.l0 rfl (Lo.st 0 Z66 rfl rfl rfl rfl rfl rfl rfl) ?_
   rintro _ _ rfl
   refine MxK.al [5, 7] rfl (by kernel_rfl) ?_
   refine Mx.r 2 rfl ?_
   refine Mx.nil ?_
   refine J.cc 6 rfl ?_
   exact J.dn [] [6, 7, 1, 2, 3, 4] rfl trivial rfl ⟨V358, rfl, rfl⟩

set_option maxRecDepth 100000 in
theorem nb203 (g323 : Nat) (g228 : Nat) (V340 : Value) (g235 : Nat) (V230 : Value) (V233 : Value) (g240 : Nat) (g243 : Nat) (g246 : Nat) (b224 : Nat) (g225 : Nat) (g247 : Nat) (g305 : Nat) : Tri Tryz.prog 86 #[.pointer (some ⟨g323, 0, none⟩)] [] [var g323 [.pointer (some ⟨g228, 0, none⟩), V340, Value.slice none 0 0] 261, var g228 [.pointer (some ⟨g235, 0, none⟩), .int .i64 2, .int .i64 4, .int .i64 1000, .int .u64 1, V230, .int .i64 0, .int .i64 1, .int .i64 1, .int .i64 10, .int .i64 1, .int .i64 64, .int .i64 20, .int .i64 1, .int .i64 4, .int .i64 10, .int .i64 5, .int .i64 1, .int .i64 3, .int .i64 2, V233, .int .i64 0, .int .i64 0, .int .i64 2, .int .i64 0, .pointer (some ⟨g240, 0, none⟩), .pointer (some ⟨g243, 0, none⟩), .pointer (some ⟨g246, 0, none⟩), .map (some b224), .pointer (some ⟨g225, 0, none⟩), .pointer (some ⟨g247, 0, none⟩)] 90, var g246 (.int .i64 1 :: .pointer (some ⟨g305, 0, none⟩) :: (rp 15 (Value.pointer none) [])) 210, var g305 [.int .i64 1, .int .i64 2, .int .i64 (-1), .int .i64 50, .int .i64 9, .int .i64 0, .int .i64 1] 66] (fun v L' => v = .tuple #[] ∧ L' = [var g323 [.pointer (some ⟨g228, 0, none⟩), V340, Value.slice none 0 0] 261, var g228 [.pointer (some ⟨g235, 0, none⟩), .int .i64 2, .int .i64 4, .int .i64 1000, .int .u64 1, V230, .int .i64 0, .int .i64 1, .int .i64 1, .int .i64 10, .int .i64 1, .int .i64 64, .int .i64 20, .int .i64 1, .int .i64 4, .int .i64 10, .int .i64 5, .int .i64 1, .int .i64 3, .int .i64 2, V233, .int .i64 0, .int .i64 0, .int .i64 2, .int .i64 0, .pointer (some ⟨g240, 0, none⟩), .pointer (some ⟨g243, 0, none⟩), .pointer (some ⟨g246, 0, none⟩), .map (some b224), .pointer (some ⟨g225, 0, none⟩), .pointer (some ⟨g247, 0, none⟩)] 90, var g246 (.int .i64 1 :: .pointer (some ⟨g305, 0, none⟩) :: (rp 15 (Value.pointer none) [])) 210, var g305 [.int .i64 1, .int .i64 2, .int .i64 (-1), .int .i64 50, .int .i64 9, .int .i64 0, .int .i64 1] 66]) := by
 refine Tri.en F86 rfl K86 rfl fun w0 => ?_
 refine J.co 5 rfl ?_
 refine O.q (Qt.lv 0 A29 rfl rfl rfl) rfl ?_
 refine O.oc 3 rfl ?_
 refine J.un ?_
 refine J.co 6 rfl ?_
 refine O.q (Qt.lv 1 A85 rfl rfl rfl) rfl ?_
 refine O.l (Lo.ca C183 (nb173 g246 g305) [2, 3] rfl rfl .nil) rfl ?_
 rintro _ _ ⟨_, ⟨rfl, rfl⟩, rfl⟩
 refine O.oc 4 rfl ?_
 exact J.dn [] [2, 3, 0, 1] rfl trivial rfl ⟨rfl, rfl⟩

set_option maxRecDepth 100000 in
theorem nb204 (g323 : Nat) (g319 : Nat) (g320 : Nat) (g228 : Nat) (g235 : Nat) (V230 : Value) (V233 : Value) (g240 : Nat) (g243 : Nat) (g246 : Nat) (b224 : Nat) (g225 : Nat) (g247 : Nat) (g244 : Nat) (b245 : Nat) (V288 : Value) (V241 : Value) (b242 : Nat) (g236 : Nat) (g237 : Nat) (g238 : Nat) (g239 : Nat) (g305 : Nat) : Tri Tryz.prog 77 #[.pointer (some ⟨g323, 0, none⟩), .pointer (some ⟨g319, 0, none⟩), .pointer (some ⟨g320, 0, none⟩)] [] [var g319 [.pointer (some ⟨g228, 0, none⟩)] 29, var g320 [.int .i64 2, .int .i64 (-1), .int .i64 0, .int .i64 3, .int .i64 50, .int .i64 9] 41, var g228 [.pointer (some ⟨g235, 0, none⟩), .int .i64 2, .int .i64 4, .int .i64 1000, .int .u64 1, V230, .int .i64 0, .int .i64 1, .int .i64 1, .int .i64 10, .int .i64 1, .int .i64 64, .int .i64 20, .int .i64 1, .int .i64 4, .int .i64 10, .int .i64 5, .int .i64 1, .int .i64 3, .int .i64 2, V233, .int .i64 0, .int .i64 0, .int .i64 1, .int .i64 0, .pointer (some ⟨g240, 0, none⟩), .pointer (some ⟨g243, 0, none⟩), .pointer (some ⟨g246, 0, none⟩), .map (some b224), .pointer (some ⟨g225, 0, none⟩), .pointer (some ⟨g247, 0, none⟩)] 90, row V230 56 14 ([[.int .i64 1, .int .i64 1, .int .i64 10, .int .i64 1, .int .i64 64, .int .i64 20, .int .i64 1, .int .i64 4, .int .i64 10, .int .i64 5, .int .i64 1, .int .i64 3, .int .i64 2, Value.slice none 0 0]].map id), mi b224 (id : Value → Value) [(1, (.agg #[.int .i64 1, .int .i64 2, .int .i64 (-1), .int .i64 50, .int .i64 9, .int .i64 0, .int .i64 1, .int .i64 1, Value.slice none 0 0] : Value))], var g243 [.pointer (some ⟨g244, 0, none⟩), .int .i64 1] 206, var g244 [.map (some b245), .int .i64 1, vcut V288 7 0 (0 : Int).toNat] 294, mi b245 (Value.int .i64) ([] : List (Int × Int)), var g240 [V241, .int .i64 0, .int .i64 1, .map (some b242)] 180, mi b242 (Value.int .i64) [(1, 0)], row V241 3 1 ([[.int .i64 1], [.int .i64 0], [.int .i64 0], [.int .i64 0], [.int .i64 0], [.int .i64 0], [.int .i64 0], [.int .i64 0], [.int .i64 0], [.int .i64 0], [.int .i64 0], [.int .i64 0], [.int .i64 0], [.int .i64 0], [.int .i64 0], [.int .i64 0], [.int .i64 0], [.int .i64 0], [.int .i64 0], [.int .i64 0], [.int .i64 0], [.int .i64 0], [.int .i64 0], [.int .i64 0], [.int .i64 0], [.int .i64 0], [.int .i64 0], [.int .i64 0], [.int .i64 0], [.int .i64 0], [.int .i64 0], [.int .i64 0], [.int .i64 0], [.int .i64 0], [.int .i64 0], [.int .i64 0], [.int .i64 0], [.int .i64 0], [.int .i64 0], [.int .i64 0], [.int .i64 0], [.int .i64 0], [.int .i64 0], [.int .i64 0], [.int .i64 0], [.int .i64 0], [.int .i64 0], [.int .i64 0], [.int .i64 0], [.int .i64 0], [.int .i64 0], [.int .i64 0], [.int .i64 0], [.int .i64 0], [.int .i64 0], [.int .i64 0], [.int .i64 0], [.int .i64 0], [.int .i64 0], [.int .i64 0], [.int .i64 0], [.int .i64 0], [.int .i64 0], [.int .i64 0]].map id), var g235 [.pointer (some ⟨g236, 0, none⟩), .pointer (some ⟨g237, 0, none⟩), .int .i64 8, .int .i64 1, .int .i64 1, .int .i64 4, .int .i64 10, .int .i64 5, .int .i64 1, .int .i64 3, .int .i64 2, .pointer (some ⟨g238, 0, none⟩), .pointer (some ⟨g239, 0, none⟩), .int .i64 8, .int .i64 1] 172, var g238 (.int .i64 8 :: .int .i64 0 :: .int .i64 0 :: .int .i64 1 :: (rp 125 (.int .i64 0) [])) 302, var g323 [.pointer (some ⟨g228, 0, none⟩), Value.slice none 0 0, Value.slice none 0 0] 261, row (vcut V288 7 0 (0 : Int).toNat) 66 7 (([] : List (List Value)).map id), var g246 (.int .i64 1 :: .pointer (some ⟨g305, 0, none⟩) :: (rp 15 (Value.pointer none) [])) 210, var g305 [.int .i64 1, .int .i64 2, .int .i64 (-1), .int .i64 50, .int .i64 9, .int .i64 0, .int .i64 1] 66] (fun v L' => ∃ (V358 : Value) (V340 : Value), v = .int .i64 0 ∧ L' = [var g319 [.pointer (some ⟨g228, 0, none⟩)] 29, var g320 [.int .i64 2, .int .i64 (-1), .int .i64 0, .int .i64 3, .int .i64 50, .int .i64 9] 41, var g228 [.pointer (some ⟨g235, 0, none⟩), .int .i64 2, .int .i64 4, .int .i64 1000, .int .u64 1, V230, .int .i64 0, .int .i64 1, .int .i64 1, .int .i64 10, .int .i64 1, .int .i64 64, .int .i64 20, .int .i64 1, .int .i64 4, .int .i64 10, .int .i64 5, .int .i64 1, .int .i64 3, .int .i64 2, V233, .int .i64 0, .int .i64 0, .int .i64 2, .int .i64 0, .pointer (some ⟨g240, 0, none⟩), .pointer (some ⟨g243, 0, none⟩), .pointer (some ⟨g246, 0, none⟩), .map (some b224), .pointer (some ⟨g225, 0, none⟩), .pointer (some ⟨g247, 0, none⟩)] 90, row V230 56 14 ([[.int .i64 1, .int .i64 1, .int .i64 10, .int .i64 1, .int .i64 64, .int .i64 20, .int .i64 1, .int .i64 4, .int .i64 10, .int .i64 5, .int .i64 1, .int .i64 3, .int .i64 2, Value.slice none 0 0]].map id), mi b224 (id : Value → Value) [(1, (.agg #[.int .i64 1, .int .i64 2, .int .i64 (-1), .int .i64 50, .int .i64 9, .int .i64 0, .int .i64 1, .int .i64 1, Value.slice none 0 0] : Value))], var g243 [.pointer (some ⟨g244, 0, none⟩), .int .i64 1] 206, var g244 [.map (some b245), .int .i64 1, V358] 294, mi b245 (Value.int .i64) [(2, 0)], var g240 [V241, .int .i64 0, .int .i64 2, .map (some b242)] 180, mi b242 (Value.int .i64) [(1, 0), (2, 1)], row V241 3 1 ([[.int .i64 1], [.int .i64 2], [.int .i64 0], [.int .i64 0], [.int .i64 0], [.int .i64 0], [.int .i64 0], [.int .i64 0], [.int .i64 0], [.int .i64 0], [.int .i64 0], [.int .i64 0], [.int .i64 0], [.int .i64 0], [.int .i64 0], [.int .i64 0], [.int .i64 0], [.int .i64 0], [.int .i64 0], [.int .i64 0], [.int .i64 0], [.int .i64 0], [.int .i64 0], [.int .i64 0], [.int .i64 0], [.int .i64 0], [.int .i64 0], [.int .i64 0], [.int .i64 0], [.int .i64 0], [.int .i64 0], [.int .i64 0], [.int .i64 0], [.int .i64 0], [.int .i64 0], [.int .i64 0], [.int .i64 0], [.int .i64 0], [.int .i64 0], [.int .i64 0], [.int .i64 0], [.int .i64 0], [.int .i64 0], [.int .i64 0], [.int .i64 0], [.int .i64 0], [.int .i64 0], [.int .i64 0], [.int .i64 0], [.int .i64 0], [.int .i64 0], [.int .i64 0], [.int .i64 0], [.int .i64 0], [.int .i64 0], [.int .i64 0], [.int .i64 0], [.int .i64 0], [.int .i64 0], [.int .i64 0], [.int .i64 0], [.int .i64 0], [.int .i64 0], [.int .i64 0]].map id), var g235 [.pointer (some ⟨g236, 0, none⟩), .pointer (some ⟨g237, 0, none⟩), .int .i64 8, .int .i64 1, .int .i64 1, .int .i64 4, .int .i64 10, .int .i64 5, .int .i64 1, .int .i64 3, .int .i64 2, .pointer (some ⟨g238, 0, none⟩), .pointer (some ⟨g239, 0, none⟩), .int .i64 8, .int .i64 1] 172, var g238 (.int .i64 8 :: .int .i64 0 :: .int .i64 0 :: .int .i64 1 :: .int .i64 1 :: (rp 124 (.int .i64 0) [])) 302, var g323 [.pointer (some ⟨g228, 0, none⟩), V340, Value.slice none 0 0] 261, var g246 (.int .i64 1 :: .pointer (some ⟨g305, 0, none⟩) :: (rp 15 (Value.pointer none) [])) 210, var g305 [.int .i64 1, .int .i64 2, .int .i64 (-1), .int .i64 50, .int .i64 9, .int .i64 0, .int .i64 1] 66, row V358 66 7 ([[.int .i64 2, .int .i64 3, .int .i64 (-1), .int .i64 50, .int .i64 9, .int .i64 0, .int .i64 2]].map id), row V340 51 7 ([[.int .i64 1, .int .i64 0, .int .i64 0, .int .i64 2, .int .i64 0, .int .i64 3, .int .i64 8]].map id)]) := by
 refine Tri.en F77 rfl K77 rfl fun w0 => ?_
 refine J.co 7 rfl ?_
 refine O.q (Qt.lv 0 A29 rfl rfl rfl) rfl ?_
 refine O.q (Qt.lva 1 A41 Z41 rfl rfl rfl) rfl ?_
 refine O.l (Lo.ca C78 (nb180 g228 g235 V230 V233 g240 g243 g246 b224 g225 g247) [2, 3] rfl rfl .nil) rfl ?_
 rintro _ _ ⟨_, ⟨rfl, rfl⟩, rfl⟩
 refine O.oo 7 rfl ?_
 refine O.q (Qt.lv 2 A29 rfl rfl rfl) rfl ?_
 refine O.oo 1 rfl ?_
 refine O.q (Qt.lv 3 A3 rfl rfl rfl) rfl ?_
 refine O.l (Lo.ca C79 (nb187 g228 g235 V230 V233 g240 g243 g246 b224 g225 g247 g244 b245 V288 V241 b242) [0, 4, 5, 6, 7, 8, 9, 10] rfl rfl .nil) rfl ?_
 rintro _ _ ⟨_, ⟨rfl, rfl⟩, rfl⟩
 refine O.oc 4 rfl ?_
 refine J.drawTail 6 Tryz.mixed (by kernel_rfl) ?_
 refine S.q (Qt.lv 9 A29 rfl rfl rfl) rfl ?_
 refine S.r 2 rfl ?_
 refine S.q (Qt.lv 0 A82 rfl rfl rfl) rfl ?_
 refine S.r 1 rfl ?_
 refine S.q (Qt.lv 10 A3 rfl rfl rfl) rfl ?_
 refine S.endO ?_
 refine O.l (Lo.ca C81 (nb191 g235 g236 g237 g238 g239) [11, 12] rfl rfl .nil) rfl ?_
 rintro _ _ ⟨_, ⟨rfl, rfl⟩, rfl⟩
 refine O.oo 3 rfl ?_
 refine O.q (Qt.lv 11 A29 rfl rfl rfl) rfl ?_
 refine O.q (Qt.lva 12 A41 Z41 rfl rfl rfl) rfl ?_
 refine O.l (Lo.ca C82 (nb194 g228 g235 V230 V233 g240 g243 g246 b224 g225 g247 g236 g237 g238 g239) [2, 0] rfl rfl .nil) rfl ?_
 rintro _ _ ⟨_, ⟨rfl, rfl⟩, rfl⟩
 refine O.oc 3 rfl ?_
 refine J.dm [(0, false), (1, false), (2, false), (3, false), (4, false), (5, false), (6, false), (7, true), (8, true)] [11, 12] Tryz.mixed (by kernel_rfl) rfl ?_
 refine Mx.r 2 rfl ?_
 refine Mx.q rfl (Qt.lv 1 A3 rfl rfl rfl) rfl ?_
 refine Mx.r 2 rfl ?_
 refine Mx.q rfl (Qt.lv 1 A3 rfl rfl rfl) rfl ?_
 refine Mx.q rfl (Qt.lv 0 A29 rfl rfl rfl) rfl ?_
 refine Mx.l rfl (Lo.ca C18 (nb196 g228 g235 V230 V233 g240 g243 g246 b224 g225 g247 g236 g237 g238 g239) [0, 1] rfl rfl .nil) rfl ?_
 rintro _ _ ⟨_, ⟨rfl, rfl⟩, rfl⟩
 refine MxK.gp [11, 12] [0, 1] rfl rfl ?_
 refine Mx.l rfl (Lo.ca C80 (nb197 g323 g228 g235 V230 V233 g240 g243 g246 b224 g225 g247) [13, 0] rfl rfl .nil) rfl ?_
 rintro _ _ ⟨_, ⟨V340, rfl, rfl⟩, rfl⟩
 refine MxK.al [13, 14] rfl (by kernel_rfl) ?_
 refine Mx.nil ?_
 refine J.co 9 rfl ?_
 refine O.q (Qt.lva 14 A41 Z41 rfl rfl rfl) rfl ?_
 refine O.l (Lo.ca C85 (nb202 g323 g228 V340 g235 V230 V233 g240 g243 g246 b224 g225 g247 g244 b245 V288) [0, 1, 6, 7, 8, 15] rfl rfl .nil) rfl ?_
 rintro _ _ ⟨_, ⟨V358, rfl, rfl⟩, rfl⟩
 refine O.oo 4 rfl ?_
 refine O.l (Lo.ca C86 (nb203 g323 g228 V340 g235 V230 V233 g240 g243 g246 b224 g225 g247 g305) [0, 1, 16, 17] rfl rfl .nil) rfl ?_
 rintro _ _ ⟨_, ⟨rfl, rfl⟩, rfl⟩
 refine O.oc 5 rfl ?_
 exact J.r1 [16, 17, 1, 15, 11, 4, 5, 6, 12, 13, 14, 9, 10, 0, 2, 3, 7, 8] rfl rfl rfl ⟨V358, V340, rfl, rfl⟩

set_option maxRecDepth 100000 in
theorem nb205 (g228 : Nat) (g319 : Nat) (g320 : Nat) (g235 : Nat) (V230 : Value) (V233 : Value) (g240 : Nat) (g243 : Nat) (g246 : Nat) (b224 : Nat) (g225 : Nat) (g247 : Nat) (g244 : Nat) (b245 : Nat) (V288 : Value) (V241 : Value) (b242 : Nat) (g236 : Nat) (g237 : Nat) (g238 : Nat) (g239 : Nat) (g305 : Nat) : Tri Tryz.prog 76 #[.pointer (some ⟨g228, 0, none⟩), .func (.func 77) #[] #[.pointer (some ⟨g319, 0, none⟩), .pointer (some ⟨g320, 0, none⟩)]] [] [var g228 [.pointer (some ⟨g235, 0, none⟩), .int .i64 2, .int .i64 4, .int .i64 1000, .int .u64 1, V230, .int .i64 0, .int .i64 1, .int .i64 1, .int .i64 10, .int .i64 1, .int .i64 64, .int .i64 20, .int .i64 1, .int .i64 4, .int .i64 10, .int .i64 5, .int .i64 1, .int .i64 3, .int .i64 2, V233, .int .i64 0, .int .i64 0, .int .i64 1, .int .i64 0, .pointer (some ⟨g240, 0, none⟩), .pointer (some ⟨g243, 0, none⟩), .pointer (some ⟨g246, 0, none⟩), .map (some b224), .pointer (some ⟨g225, 0, none⟩), .pointer (some ⟨g247, 0, none⟩)] 90, var g319 [.pointer (some ⟨g228, 0, none⟩)] 29, var g320 [.int .i64 2, .int .i64 (-1), .int .i64 0, .int .i64 3, .int .i64 50, .int .i64 9] 41, row V230 56 14 ([[.int .i64 1, .int .i64 1, .int .i64 10, .int .i64 1, .int .i64 64, .int .i64 20, .int .i64 1, .int .i64 4, .int .i64 10, .int .i64 5, .int .i64 1, .int .i64 3, .int .i64 2, Value.slice none 0 0]].map id), mi b224 (id : Value → Value) [(1, (.agg #[.int .i64 1, .int .i64 2, .int .i64 (-1), .int .i64 50, .int .i64 9, .int .i64 0, .int .i64 1, .int .i64 1, Value.slice none 0 0] : Value))], var g243 [.pointer (some ⟨g244, 0, none⟩), .int .i64 1] 206, var g244 [.map (some b245), .int .i64 1, vcut V288 7 0 (0 : Int).toNat] 294, mi b245 (Value.int .i64) ([] : List (Int × Int)), var g240 [V241, .int .i64 0, .int .i64 1, .map (some b242)] 180, mi b242 (Value.int .i64) [(1, 0)], row V241 3 1 ([[.int .i64 1], [.int .i64 0], [.int .i64 0], [.int .i64 0], [.int .i64 0], [.int .i64 0], [.int .i64 0], [.int .i64 0], [.int .i64 0], [.int .i64 0], [.int .i64 0], [.int .i64 0], [.int .i64 0], [.int .i64 0], [.int .i64 0], [.int .i64 0], [.int .i64 0], [.int .i64 0], [.int .i64 0], [.int .i64 0], [.int .i64 0], [.int .i64 0], [.int .i64 0], [.int .i64 0], [.int .i64 0], [.int .i64 0], [.int .i64 0], [.int .i64 0], [.int .i64 0], [.int .i64 0], [.int .i64 0], [.int .i64 0], [.int .i64 0], [.int .i64 0], [.int .i64 0], [.int .i64 0], [.int .i64 0], [.int .i64 0], [.int .i64 0], [.int .i64 0], [.int .i64 0], [.int .i64 0], [.int .i64 0], [.int .i64 0], [.int .i64 0], [.int .i64 0], [.int .i64 0], [.int .i64 0], [.int .i64 0], [.int .i64 0], [.int .i64 0], [.int .i64 0], [.int .i64 0], [.int .i64 0], [.int .i64 0], [.int .i64 0], [.int .i64 0], [.int .i64 0], [.int .i64 0], [.int .i64 0], [.int .i64 0], [.int .i64 0], [.int .i64 0], [.int .i64 0]].map id), var g235 [.pointer (some ⟨g236, 0, none⟩), .pointer (some ⟨g237, 0, none⟩), .int .i64 8, .int .i64 1, .int .i64 1, .int .i64 4, .int .i64 10, .int .i64 5, .int .i64 1, .int .i64 3, .int .i64 2, .pointer (some ⟨g238, 0, none⟩), .pointer (some ⟨g239, 0, none⟩), .int .i64 8, .int .i64 1] 172, var g238 (.int .i64 8 :: .int .i64 0 :: .int .i64 0 :: .int .i64 1 :: (rp 125 (.int .i64 0) [])) 302, row (vcut V288 7 0 (0 : Int).toNat) 66 7 (([] : List (List Value)).map id), var g246 (.int .i64 1 :: .pointer (some ⟨g305, 0, none⟩) :: (rp 15 (Value.pointer none) [])) 210, var g305 [.int .i64 1, .int .i64 2, .int .i64 (-1), .int .i64 50, .int .i64 9, .int .i64 0, .int .i64 1] 66] (fun v L' => ∃ (V340 : Value) (V358 : Value), v = .tuple #[.agg #[V340, Value.slice none 0 0], .int .i64 0] ∧ L' = [var g228 [.pointer (some ⟨g235, 0, none⟩), .int .i64 2, .int .i64 4, .int .i64 1000, .int .u64 1, V230, .int .i64 0, .int .i64 1, .int .i64 1, .int .i64 10, .int .i64 1, .int .i64 64, .int .i64 20, .int .i64 1, .int .i64 4, .int .i64 10, .int .i64 5, .int .i64 1, .int .i64 3, .int .i64 2, V233, .int .i64 0, .int .i64 0, .int .i64 2, .int .i64 0, .pointer (some ⟨g240, 0, none⟩), .pointer (some ⟨g243, 0, none⟩), .pointer (some ⟨g246, 0, none⟩), .map (some b224), .pointer (some ⟨g225, 0, none⟩), .pointer (some ⟨g247, 0, none⟩)] 90, var g319 [.pointer (some ⟨g228, 0, none⟩)] 29, var g320 [.int .i64 2, .int .i64 (-1), .int .i64 0, .int .i64 3, .int .i64 50, .int .i64 9] 41, row V230 56 14 ([[.int .i64 1, .int .i64 1, .int .i64 10, .int .i64 1, .int .i64 64, .int .i64 20, .int .i64 1, .int .i64 4, .int .i64 10, .int .i64 5, .int .i64 1, .int .i64 3, .int .i64 2, Value.slice none 0 0]].map id), mi b224 (id : Value → Value) [(1, (.agg #[.int .i64 1, .int .i64 2, .int .i64 (-1), .int .i64 50, .int .i64 9, .int .i64 0, .int .i64 1, .int .i64 1, Value.slice none 0 0] : Value))], var g243 [.pointer (some ⟨g244, 0, none⟩), .int .i64 1] 206, var g244 [.map (some b245), .int .i64 1, V358] 294, mi b245 (Value.int .i64) [(2, 0)], var g240 [V241, .int .i64 0, .int .i64 2, .map (some b242)] 180, mi b242 (Value.int .i64) [(1, 0), (2, 1)], row V241 3 1 ([[.int .i64 1], [.int .i64 2], [.int .i64 0], [.int .i64 0], [.int .i64 0], [.int .i64 0], [.int .i64 0], [.int .i64 0], [.int .i64 0], [.int .i64 0], [.int .i64 0], [.int .i64 0], [.int .i64 0], [.int .i64 0], [.int .i64 0], [.int .i64 0], [.int .i64 0], [.int .i64 0], [.int .i64 0], [.int .i64 0], [.int .i64 0], [.int .i64 0], [.int .i64 0], [.int .i64 0], [.int .i64 0], [.int .i64 0], [.int .i64 0], [.int .i64 0], [.int .i64 0], [.int .i64 0], [.int .i64 0], [.int .i64 0], [.int .i64 0], [.int .i64 0], [.int .i64 0], [.int .i64 0], [.int .i64 0], [.int .i64 0], [.int .i64 0], [.int .i64 0], [.int .i64 0], [.int .i64 0], [.int .i64 0], [.int .i64 0], [.int .i64 0], [.int .i64 0], [.int .i64 0], [.int .i64 0], [.int .i64 0], [.int .i64 0], [.int .i64 0], [.int .i64 0], [.int .i64 0], [.int .i64 0], [.int .i64 0], [.int .i64 0], [.int .i64 0], [.int .i64 0], [.int .i64 0], [.int .i64 0], [.int .i64 0], [.int .i64 0], [.int .i64 0], [.int .i64 0]].map id), var g235 [.pointer (some ⟨g236, 0, none⟩), .pointer (some ⟨g237, 0, none⟩), .int .i64 8, .int .i64 1, .int .i64 1, .int .i64 4, .int .i64 10, .int .i64 5, .int .i64 1, .int .i64 3, .int .i64 2, .pointer (some ⟨g238, 0, none⟩), .pointer (some ⟨g239, 0, none⟩), .int .i64 8, .int .i64 1] 172, var g238 (.int .i64 8 :: .int .i64 0 :: .int .i64 0 :: .int .i64 1 :: .int .i64 1 :: (rp 124 (.int .i64 0) [])) 302, var g246 (.int .i64 1 :: .pointer (some ⟨g305, 0, none⟩) :: (rp 15 (Value.pointer none) [])) 210, var g305 [.int .i64 1, .int .i64 2, .int .i64 (-1), .int .i64 50, .int .i64 9, .int .i64 0, .int .i64 1] 66, row V340 51 7 ([[.int .i64 1, .int .i64 0, .int .i64 0, .int .i64 2, .int .i64 0, .int .i64 3, .int .i64 8]].map id), row V358 66 7 ([[.int .i64 2, .int .i64 3, .int .i64 (-1), .int .i64 50, .int .i64 9, .int .i64 0, .int .i64 2]].map id)]) := by
 refine Tri.en F76 rfl K76 rfl fun w0 => ?_
 refine J.co 2 rfl ?_
 refine O.l (Lo.al Y36 rfl) rfl ?_
 rintro _ _ ⟨g322, rfl, rfl⟩
 refine O.oo 6 rfl ?_
 refine O.l (Lo.ca C39 (nb178 g228 g235 V230 V233 g240 g243 g246 b224 g225 g247) [1] rfl rfl .nil) rfl ?_
 rintro _ _ ⟨_, ⟨rfl, rfl⟩, rfl⟩
 refine O.oo 7 rfl ?_
 refine O.p (Pu.build [(0, .pointer (some ⟨g228, 0, none⟩))] [.pointer (some ⟨g228, 0, none⟩), Value.slice none 0 0, Value.slice none 0 0] #[(0, 1), (1, 2)] U261 Y261 (places261 N261) rfl (by kernel_rfl)) rfl ?_
 refine O.l (Lo.bx rfl rfl) rfl ?_
 rintro _ _ ⟨g323, rfl, rfl⟩
 refine O.oo 7 rfl ?_
 refine O.l (Lo.cv C77 rfl rfl (nb204 g323 g319 g320 g228 g235 V230 V233 g240 g243 g246 b224 g225 g247 g244 b245 V288 V241 b242 g236 g237 g238 g239 g305) [3, 4, 1, 5, 6, 7, 8, 9, 10, 11, 12, 13, 14, 0, 15, 16, 17] rfl .nil) rfl ?_
 rintro _ _ ⟨_, ⟨V358, V340, rfl, rfl⟩, rfl⟩
 refine O.oo 14 rfl ?_
 refine O.q (Qt.lva 13 A36 Z36 rfl rfl rfl) rfl ?_
 refine O.one (Src.row 17 rfl) (fun hV360 => ?_)
 refine O.l0 (Lo.st 18 Z36 rfl rfl rfl rfl rfl (by simp only [List.all_cons, List.all_nil, Bool.and_true, hV360] <;> rfl) rfl) ?_
 rintro _ _ rfl
 refine O.oc 2 rfl ?_
 exact J.rn [_, _] [2, 0, 1, 3, 4, 5, 6, 7, 8, 9, 10, 11, 12, 14, 15, 17, 16] rfl ⟨⟨_, _, 0, 0, _, rfl, Cel.var 18 rfl, rfl, Cut.agg _ A36 Z36 rfl rfl⟩, rfl, trivial⟩ rfl ⟨V340, V358, rfl, rfl⟩

set_option maxRecDepth 100000 in
theorem nb206 (g228 : Nat) (g235 : Nat) (V230 : Value) (V233 : Value) (g240 : Nat) (g243 : Nat) (g246 : Nat) (b224 : Nat) (g225 : Nat) (g247 : Nat) (g244 : Nat) (b245 : Nat) (V288 : Value) (V241 : Value) (b242 : Nat) (g236 : Nat) (g237 : Nat) (g238 : Nat) (g239 : Nat) (g305 : Nat) : Tri Tryz.prog 32 #[.pointer (some ⟨g228, 0, none⟩), .agg #[.int .i64 2, .int .i64 (-1), .int .i64 0, .int .i64 3, .int .i64 50, .int .i64 9]] [] [var g228 [.pointer (some ⟨g235, 0, none⟩), .int .i64 2, .int .i64 4, .int .i64 1000, .int .u64 1, V230, .int .i64 0, .int .i64 1, .int .i64 1, .int .i64 10, .int .i64 1, .int .i64 64, .int .i64 20, .int .i64 1, .int .i64 4, .int .i64 10, .int .i64 5, .int .i64 1, .int .i64 3, .int .i64 2, V233, .int .i64 0, .int .i64 0, .int .i64 1, .int .i64 0, .pointer (some ⟨g240, 0, none⟩), .pointer (some ⟨g243, 0, none⟩), .pointer (some ⟨g246, 0, none⟩), .map (some b224), .pointer (some ⟨g225, 0, none⟩), .pointer (some ⟨g247, 0, none⟩)] 90, row V230 56 14 ([[.int .i64 1, .int .i64 1, .int .i64 10, .int .i64 1, .int .i64 64, .int .i64 20, .int .i64 1, .int .i64 4, .int .i64 10, .int .i64 5, .int .i64 1, .int .i64 3, .int .i64 2, Value.slice none 0 0]].map id), mi b224 (id : Value → Value) [(1, (.agg #[.int .i64 1, .int .i64 2, .int .i64 (-1), .int .i64 50, .int .i64 9, .int .i64 0, .int .i64 1, .int .i64 1, Value.slice none 0 0] : Value))], var g243 [.pointer (some ⟨g244, 0, none⟩), .int .i64 1] 206, var g244 [.map (some b245), .int .i64 1, vcut V288 7 0 (0 : Int).toNat] 294, mi b245 (Value.int .i64) ([] : List (Int × Int)), var g240 [V241, .int .i64 0, .int .i64 1, .map (some b242)] 180, mi b242 (Value.int .i64) [(1, 0)], row V241 3 1 ([[.int .i64 1], [.int .i64 0], [.int .i64 0], [.int .i64 0], [.int .i64 0], [.int .i64 0], [.int .i64 0], [.int .i64 0], [.int .i64 0], [.int .i64 0], [.int .i64 0], [.int .i64 0], [.int .i64 0], [.int .i64 0], [.int .i64 0], [.int .i64 0], [.int .i64 0], [.int .i64 0], [.int .i64 0], [.int .i64 0], [.int .i64 0], [.int .i64 0], [.int .i64 0], [.int .i64 0], [.int .i64 0], [.int .i64 0], [.int .i64 0], [.int .i64 0], [.int .i64 0], [.int .i64 0], [.int .i64 0], [.int .i64 0], [.int .i64 0], [.int .i64 0], [.int .i64 0], [.int .i64 0], [.int .i64 0], [.int .i64 0], [.int .i64 0], [.int .i64 0], [.int .i64 0], [.int .i64 0], [.int .i64 0], [.int .i64 0], [.int .i64 0], [.int .i64 0], [.int .i64 0], [.int .i64 0], [.int .i64 0], [.int .i64 0], [.int .i64 0], [.int .i64 0], [.int .i64 0], [.int .i64 0], [.int .i64 0], [.int .i64 0], [.int .i64 0], [.int .i64 0], [.int .i64 0], [.int .i64 0], [.int .i64 0], [.int .i64 0], [.int .i64 0], [.int .i64 0]].map id), var g235 [.pointer (some ⟨g236, 0, none⟩), .pointer (some ⟨g237, 0, none⟩), .int .i64 8, .int .i64 1, .int .i64 1, .int .i64 4, .int .i64 10, .int .i64 5, .int .i64 1, .int .i64 3, .int .i64 2, .pointer (some ⟨g238, 0, none⟩), .pointer (some ⟨g239, 0, none⟩), .int .i64 8, .int .i64 1] 172, var g238 (.int .i64 8 :: .int .i64 0 :: .int .i64 0 :: .int .i64 1 :: (rp 125 (.int .i64 0) [])) 302, row (vcut V288 7 0 (0 : Int).toNat) 66 7 (([] : List (List Value)).map id), var g246 (.int .i64 1 :: .pointer (some ⟨g305, 0, none⟩) :: (rp 15 (Value.pointer none) [])) 210, var g305 [.int .i64 1, .int .i64 2, .int .i64 (-1), .int .i64 50, .int .i64 9, .int .i64 0, .int .i64 1] 66] (fun v L' => ∃ (V340 : Value) (V358 : Value), v = .tuple #[.agg #[V340, Value.slice none 0 0], .int .i64 0] ∧ L' = [var g228 [.pointer (some ⟨g235, 0, none⟩), .int .i64 2, .int .i64 4, .int .i64 1000, .int .u64 1, V230, .int .i64 0, .int .i64 1, .int .i64 1, .int .i64 10, .int .i64 1, .int .i64 64, .int .i64 20, .int .i64 1, .int .i64 4, .int .i64 10, .int .i64 5, .int .i64 1, .int .i64 3, .int .i64 2, V233, .int .i64 0, .int .i64 0, .int .i64 2, .int .i64 0, .pointer (some ⟨g240, 0, none⟩), .pointer (some ⟨g243, 0, none⟩), .pointer (some ⟨g246, 0, none⟩), .map (some b224), .pointer (some ⟨g225, 0, none⟩), .pointer (some ⟨g247, 0, none⟩)] 90, row V230 56 14 ([[.int .i64 1, .int .i64 1, .int .i64 10, .int .i64 1, .int .i64 64, .int .i64 20, .int .i64 1, .int .i64 4, .int .i64 10, .int .i64 5, .int .i64 1, .int .i64 3, .int .i64 2, Value.slice none 0 0]].map id), mi b224 (id : Value → Value) [(1, (.agg #[.int .i64 1, .int .i64 2, .int .i64 (-1), .int .i64 50, .int .i64 9, .int .i64 0, .int .i64 1, .int .i64 1, Value.slice none 0 0] : Value))], var g243 [.pointer (some ⟨g244, 0, none⟩), .int .i64 1] 206, var g244 [.map (some b245), .int .i64 1, V358] 294, mi b245 (Value.int .i64) [(2, 0)], var g240 [V241, .int .i64 0, .int .i64 2, .map (some b242)] 180, mi b242 (Value.int .i64) [(1, 0), (2, 1)], row V241 3 1 ([[.int .i64 1], [.int .i64 2], [.int .i64 0], [.int .i64 0], [.int .i64 0], [.int .i64 0], [.int .i64 0], [.int .i64 0], [.int .i64 0], [.int .i64 0], [.int .i64 0], [.int .i64 0], [.int .i64 0], [.int .i64 0], [.int .i64 0], [.int .i64 0], [.int .i64 0], [.int .i64 0], [.int .i64 0], [.int .i64 0], [.int .i64 0], [.int .i64 0], [.int .i64 0], [.int .i64 0], [.int .i64 0], [.int .i64 0], [.int .i64 0], [.int .i64 0], [.int .i64 0], [.int .i64 0], [.int .i64 0], [.int .i64 0], [.int .i64 0], [.int .i64 0], [.int .i64 0], [.int .i64 0], [.int .i64 0], [.int .i64 0], [.int .i64 0], [.int .i64 0], [.int .i64 0], [.int .i64 0], [.int .i64 0], [.int .i64 0], [.int .i64 0], [.int .i64 0], [.int .i64 0], [.int .i64 0], [.int .i64 0], [.int .i64 0], [.int .i64 0], [.int .i64 0], [.int .i64 0], [.int .i64 0], [.int .i64 0], [.int .i64 0], [.int .i64 0], [.int .i64 0], [.int .i64 0], [.int .i64 0], [.int .i64 0], [.int .i64 0], [.int .i64 0], [.int .i64 0]].map id), var g235 [.pointer (some ⟨g236, 0, none⟩), .pointer (some ⟨g237, 0, none⟩), .int .i64 8, .int .i64 1, .int .i64 1, .int .i64 4, .int .i64 10, .int .i64 5, .int .i64 1, .int .i64 3, .int .i64 2, .pointer (some ⟨g238, 0, none⟩), .pointer (some ⟨g239, 0, none⟩), .int .i64 8, .int .i64 1] 172, var g238 (.int .i64 8 :: .int .i64 0 :: .int .i64 0 :: .int .i64 1 :: .int .i64 1 :: (rp 124 (.int .i64 0) [])) 302, var g246 (.int .i64 1 :: .pointer (some ⟨g305, 0, none⟩) :: (rp 15 (Value.pointer none) [])) 210, var g305 [.int .i64 1, .int .i64 2, .int .i64 (-1), .int .i64 50, .int .i64 9, .int .i64 0, .int .i64 1] 66, row V340 51 7 ([[.int .i64 1, .int .i64 0, .int .i64 0, .int .i64 2, .int .i64 0, .int .i64 3, .int .i64 8]].map id), row V358 66 7 ([[.int .i64 2, .int .i64 3, .int .i64 (-1), .int .i64 50, .int .i64 9, .int .i64 0, .int .i64 2]].map id)]) := by
 refine Tri.en F32 rfl K32 rfl fun w0 => ?_
 refine J.co 2 rfl ?_
 refine O.l (Lo.bx rfl rfl) rfl ?_
 rintro _ _ ⟨g319, rfl, rfl⟩
 refine O.l (Lo.bx rfl rfl) rfl ?_
 rintro _ _ ⟨g320, rfl, rfl⟩
 refine O.l (Lo.al Y36 rfl) rfl ?_
 rintro _ _ ⟨g321, rfl, rfl⟩
 refine O.oo 4 rfl ?_
 refine O.q (Qt.lv 2 A29 rfl rfl rfl) rfl ?_
 refine O.p (Pu.makeFunc [.pointer (some ⟨g319, 0, none⟩), .pointer (some ⟨g320, 0, none⟩)] rfl) rfl ?_
 refine O.l (Lo.ca C76 (nb205 g228 g319 g320 g235 V230 V233 g240 g243 g246 b224 g225 g247 g244 b245 V288 V241 b242 g236 g237 g238 g239 g305) [3, 2, 1, 4, 5, 6, 7, 8, 9, 10, 11, 12, 13, 14, 15, 16] rfl rfl .nil) rfl ?_
 rintro _ _ ⟨_, ⟨V340, V358, rfl, rfl⟩, rfl⟩
 refine O.oo 2 rfl ?_
 refine O.one (Src.row 15 rfl) (fun hV361 => ?_)
 refine O.l0 (Lo.st 17 Z36 rfl rfl rfl rfl rfl (by simp only [List.all_cons, List.all_nil, Bool.and_true, hV361] <;> rfl) rfl) ?_
 rintro _ _ rfl
 refine O.oc 2 rfl ?_
 exact J.rn [_, _] [0, 3, 4, 5, 6, 7, 8, 9, 10, 11, 12, 13, 14, 15, 16] rfl ⟨⟨_, _, 0, 0, _, rfl, Cel.var 17 rfl, rfl, Cut.agg _ A36 Z36 rfl rfl⟩, rfl, trivial⟩ rfl ⟨V340, V358, rfl, rfl⟩

set_option maxRecDepth 100000 in
theorem nb207 (g228 : Nat) (g235 : Nat) (V230 : Value) (V233 : Value) (g240 : Nat) (g243 : Nat) (g246 : Nat) (b224 : Nat) (g225 : Nat) (g247 : Nat) : Tri Tryz.prog 39 #[.pointer (some ⟨g228, 0, none⟩)] [] [var g228 [.pointer (some ⟨g235, 0, none⟩), .int .i64 2, .int .i64 4, .int .i64 1000, .int .u64 1, V230, .int .i64 0, .int .i64 1, .int .i64 1, .int .i64 10, .int .i64 1, .int .i64 64, .int .i64 20, .int .i64 1, .int .i64 4, .int .i64 10, .int .i64 5, .int .i64 1, .int .i64 3, .int .i64 2, V233, .int .i64 0, .int .i64 0, .int .i64 2, .int .i64 0, .pointer (some ⟨g240, 0, none⟩), .pointer (some ⟨g243, 0, none⟩), .pointer (some ⟨g246, 0, none⟩), .map (some b224), .pointer (some ⟨g225, 0, none⟩), .pointer (some ⟨g247, 0, none⟩)] 90] (fun v L' => v = .bool true ∧ L' = [var g228 [.pointer (some ⟨g235, 0, none⟩), .int .i64 2, .int .i64 4, .int .i64 1000, .int .u64 1, V230, .int .i64 0, .int .i64 1, .int .i64 1, .int .i64 10, .int .i64 1, .int .i64 64, .int .i64 20, .int .i64 1, .int .i64 4, .int .i64 10, .int .i64 5, .int .i64 1, .int .i64 3, .int .i64 2, V233, .int .i64 0, .int .i64 0, .int .i64 2, .int .i64 0, .pointer (some ⟨g240, 0, none⟩), .pointer (some ⟨g243, 0, none⟩), .pointer (some ⟨g246, 0, none⟩), .map (some b224), .pointer (some ⟨g225, 0, none⟩), .pointer (some ⟨g247, 0, none⟩)] 90]) := by
 refine Tri.en F39 rfl K39 rfl fun w0 => ?_
 refine J.co 7 rfl ?_
 refine O.p (Pu.ptrNe N29 rfl) rfl ?_
 refine O.oo 4 rfl ?_
 refine O.gz (Qt.lv 0 A82 rfl rfl rfl) rfl rfl ?_
 refine O.gz (Pu.qt (Pu.ptrNe N82 rfl)) rfl rfl ?_
 refine O.oc 3 rfl ?_
 exact J.r1 [0] rfl rfl rfl ⟨rfl, rfl⟩

set_option maxRecDepth 100000 in
theorem nb208 : Tri Tryz.prog 175 #[.agg #[.int .i64 3, .int .i64 (-1), .int .i64 0, .int .i64 1, .int .i64 50, .int .i64 9]] [] [] (fun v L' => v = .int .i64 0 ∧ L' = []) := by
 refine Tri.en F175 rfl K175 rfl fun w0 => ?_
 refine J.co 2 rfl ?_
 refine O.l (Lo.bx rfl rfl) rfl ?_
 rintro _ _ ⟨g370, rfl, rfl⟩
 refine O.oo 5 rfl ?_
 refine O.l (Lo.ca C258 (nb112 g370) [] rfl rfl .nil) rfl ?_
 rintro V371 _ ⟨_, ⟨_, rfl, rfl⟩, rfl⟩
 refine O.q (Qt.lenM U332 rfl (Src.row 0 rfl)) rfl ?_
 refine O.oc 3 rfl ?_
 refine J.un ?_
 refine J.co 11 rfl ?_
 refine O.q (Qt.ix U332 Z336 rfl (Src.row 0 rfl) (j := 0) (a := [.pointer (some ⟨g370, 0, none⟩), .int .i64 6, .int .i64 0, .int .i64 0, .int .i64 281474976710655]) rfl rfl rfl) rfl ?_
 refine O.q (Qt.lea A336 Z336 (Src.row 0 rfl) (j := 0) (a := [.pointer (some ⟨g370, 0, none⟩), .int .i64 6, .int .i64 0, .int .i64 0, .int .i64 281474976710655]) rfl 0 rfl (by omega) rfl) rfl ?_
 refine O.l (Lo.al Y336 rfl) rfl ?_
 rintro _ _ ⟨g372, rfl, rfl⟩
 refine O.l0 (Lo.st 0 Z336 rfl rfl rfl rfl rfl rfl rfl) ?_
 rintro _ _ rfl
 refine O.oc 2 rfl ?_
 refine J.drawStill Tryz.mixed (by kernel_rfl) ?_
 refine S.r 1 rfl ?_
 refine S.q (Qt.lv 0 A305 rfl rfl rfl) rfl ?_
 refine S.r 1 rfl ?_
 refine S.q (Qt.lv 2 A3 rfl rfl rfl) rfl ?_
 refine S.r 1 rfl ?_
 refine S.q (Qt.lv 0 A3 rfl rfl rfl) rfl ?_
 refine S.r 3 rfl ?_
 refine S.gz (Qt.lv 0 A305 rfl rfl rfl) rfl rfl ?_
 refine S.r 1 rfl ?_
 refine S.gz (Qt.lv 2 A3 rfl rfl rfl) rfl rfl ?_
 refine S.r 1 rfl ?_
 refine S.gz (Qt.lv 0 A3 rfl rfl rfl) rfl rfl ?_
 refine S.r 2 rfl ?_
 refine S.endJ ?_
 refine J.co 4 rfl ?_
 refine O.p (Pu.add' rfl rfl (by decide)) rfl ?_
 refine O.oc 2 rfl ?_
 refine J.again ?_
 refine J.co 11 rfl ?_
 refine O.q (Qt.ix U332 Z336 rfl (Src.row 1 rfl) (j := 1) (a := [.pointer (some ⟨g370, 1, none⟩), .int .i64 1, .int .i64 1, .int .i64 (-1), .int .i64 7]) rfl rfl rfl) rfl ?_
 refine O.q (Qt.lea A336 Z336 (Src.row 1 rfl) (j := 1) (a := [.pointer (some ⟨g370, 1, none⟩), .int .i64 1, .int .i64 1, .int .i64 (-1), .int .i64 7]) rfl 0 rfl (by omega) rfl) rfl ?_
 refine O.l (Lo.al Y336 rfl) rfl ?_
 rintro _ _ ⟨g373, rfl, rfl⟩
 refine O.l0 (Lo.st 0 Z336 rfl rfl rfl rfl rfl rfl rfl) ?_
 rintro _ _ rfl
 refine O.oc 2 rfl ?_
 refine J.drawStill Tryz.mixed (by kernel_rfl) ?_
 refine S.r 1 rfl ?_
 refine S.q (Qt.lv 0 A305 rfl rfl rfl) rfl ?_
 refine S.r 1 rfl ?_
 refine S.q (Qt.lv 3 A3 rfl rfl rfl) rfl ?_
 refine S.r 1 rfl ?_
 refine S.q (Qt.lv 0 A3 rfl rfl rfl) rfl ?_
 refine S.r 3 rfl ?_
 refine S.gz (Qt.lv 0 A305 rfl rfl rfl) rfl rfl ?_
 refine S.r 1 rfl ?_
 refine S.gz (Qt.lv 3 A3 rfl rfl rfl) rfl rfl ?_
 refine S.r 1 rfl ?_
 refine S.gz (Qt.lv 0 A3 rfl rfl rfl) rfl rfl ?_
 refine S.r 2 rfl ?_
 refine S.endJ ?_
 refine J.co 4 rfl ?_
 refine O.p (Pu.add' rfl rfl (by decide)) rfl ?_
 refine O.oc 2 rfl ?_
 refine J.again ?_
 refine J.co 11 rfl ?_
 refine O.q (Qt.ix U332 Z336 rfl (Src.row 2 rfl) (j := 2) (a := [.pointer (some ⟨g370, 2, none⟩), .int .i64 1, .int .i64 0, .int .i64 0, .int .i64 7]) rfl rfl rfl) rfl ?_
 refine O.q (Qt.lea A336 Z336 (Src.row 2 rfl) (j := 2) (a := [.pointer (some ⟨g370, 2, none⟩), .int .i64 1, .int .i64 0, .int .i64 0, .int .i64 7]) rfl 0 rfl (by omega) rfl) rfl ?_
 refine O.l (Lo.al Y336 rfl) rfl ?_
 rintro _ _ ⟨g374, rfl, rfl⟩
 refine O.l0 (Lo.st 0 Z336 rfl rfl rfl rfl rfl rfl rfl) ?_
 rintro _ _ rfl
 refine O.oc 2 rfl ?_
 refine J.drawStill Tryz.mixed (by kernel_rfl) ?_
 refine S.r 1 rfl ?_
 refine S.q (Qt.lv 0 A305 rfl rfl rfl) rfl ?_
 refine S.r 1 rfl ?_
 refine S.q (Qt.lv 4 A3 rfl rfl rfl) rfl ?_
 refine S.r 1 rfl ?_
 refine S.q (Qt.lv 0 A3 rfl rfl rfl) rfl ?_
 refine S.r 3 rfl ?_
 refine S.gz (Qt.lv 0 A305 rfl rfl rfl) rfl rfl ?_
 refine S.r 1 rfl ?_
 refine S.gz (Qt.lv 4 A3 rfl rfl rfl) rfl rfl ?_
 refine S.r 1 rfl ?_
 refine S.gz (Qt.lv 0 A3 rfl rfl rfl) rfl rfl ?_
 refine S.r 2 rfl ?_
 refine S.endJ ?_
 refine J.co 4 rfl ?_
 refine O.p (Pu.add' rfl rfl (by decide)) rfl ?_
 refine O.oc 2 rfl ?_
 refine J.again ?_
 refine J.co 11 rfl ?_
 refine O.q (Qt.ix U332 Z336 rfl (Src.row 3 rfl) (j := 3) (a := [.pointer (some ⟨g370, 3, none⟩), .int .i64 1, .int .i64 0, .int .i64 0, .int .i64 127]) rfl rfl rfl) rfl ?_
 refine O.q (Qt.lea A336 Z336 (Src.row 3 rfl) (j := 3) (a := [.pointer (some ⟨g370, 3, none⟩), .int .i64 1, .int .i64 0, .int .i64 0, .int .i64 127]) rfl 0 rfl (by omega) rfl) rfl ?_
 refine O.l (Lo.al Y336 rfl) rfl ?_
 rintro _ _ ⟨g375, rfl, rfl⟩
 refine O.l0 (Lo.st 0 Z336 rfl rfl rfl rfl rfl rfl rfl) ?_
 rintro _ _ rfl
 refine O.oc 2 rfl ?_
 refine J.drawStill Tryz.mixed (by kernel_rfl) ?_
 refine S.r 1 rfl ?_
 refine S.q (Qt.lv 0 A305 rfl rfl rfl) rfl ?_
 refine S.r 1 rfl ?_
 refine S.q (Qt.lv 5 A3 rfl rfl rfl) rfl ?_
 refine S.r 1 rfl ?_
 refine S.q (Qt.lv 0 A3 rfl rfl rfl) rfl ?_
 refine S.r 3 rfl ?_
 refine S.gz (Qt.lv 0 A305 rfl rfl rfl) rfl rfl ?_
 refine S.r 1 rfl ?_
 refine S.gz (Qt.lv 5 A3 rfl rfl rfl) rfl rfl ?_
 refine S.r 1 rfl ?_
 refine S.gz (Qt.lv 0 A3 rfl rfl rfl) rfl rfl ?_
 refine S.r 2 rfl ?_
 refine S.endJ ?_
 refine J.co 4 rfl ?_
 refine O.p (Pu.add' rfl rfl (by decide)) rfl ?_
 refine O.oc 2 rfl ?_
 refine J.again ?_
 refine J.co 11 rfl ?_
 refine O.q (Qt.ix U332 Z336 rfl (Src.row 4 rfl) (j := 4) (a := [.pointer (some ⟨g370, 4, none⟩), .int .i64 6, .int .i64 0, .int .i64 0, .int .i64 1099511627776]) rfl rfl rfl) rfl ?_
 refine O.q (Qt.lea A336 Z336 (Src.row 4 rfl) (j := 4) (a := [.pointer (some ⟨g370, 4, none⟩), .int .i64 6, .int .i64 0, .int .i64 0, .int .i64 1099511627776]) rfl 0 rfl (by omega) rfl) rfl ?_
 refine O.l (Lo.al Y336 rfl) rfl ?_
 rintro _ _ ⟨g376, rfl, rfl⟩
 refine O.l0 (Lo.st 0 Z336 rfl rfl rfl rfl rfl rfl rfl) ?_
 rintro _ _ rfl
 refine O.oc 2 rfl ?_
 refine J.drawStill Tryz.mixed (by kernel_rfl) ?_
 refine S.r 1 rfl ?_
 refine S.q (Qt.lv 0 A305 rfl rfl rfl) rfl ?_
 refine S.r 1 rfl ?_
 refine S.q (Qt.lv 6 A3 rfl rfl rfl) rfl ?_
 refine S.r 1 rfl ?_
 refine S.q (Qt.lv 0 A3 rfl rfl rfl) rfl ?_
 refine S.r 3 rfl ?_
 refine S.gz (Qt.lv 0 A305 rfl rfl rfl) rfl rfl ?_
 refine S.r 1 rfl ?_
 refine S.gz (Qt.lv 6 A3 rfl rfl rfl) rfl rfl ?_
 refine S.r 1 rfl ?_
 refine S.gz (Qt.lv 0 A3 rfl rfl rfl) rfl rfl ?_
 refine S.r 2 rfl ?_
 refine S.endJ ?_
 refine J.co 4 rfl ?_
 refine O.p (Pu.add' rfl rfl (by decide)) rfl ?_
 refine O.oc 2 rfl ?_
 refine J.again ?_
 refine J.co 11 rfl ?_
 refine O.q (Qt.ix U332 Z336 rfl (Src.row 5 rfl) (j := 5) (a := [.pointer (some ⟨g370, 5, none⟩), .int .i64 2, .int .i64 0, .int .i64 0, .int .i64 65535]) rfl rfl rfl) rfl ?_
 refine O.q (Qt.lea A336 Z336 (Src.row 5 rfl) (j := 5) (a := [.pointer (some ⟨g370, 5, none⟩), .int .i64 2, .int .i64 0, .int .i64 0, .int .i64 65535]) rfl 0 rfl (by omega) rfl) rfl ?_
 refine O.l (Lo.al Y336 rfl) rfl ?_
 rintro _ _ ⟨g377, rfl, rfl⟩
 refine O.l0 (Lo.st 0 Z336 rfl rfl rfl rfl rfl rfl rfl) ?_
 rintro _ _ rfl
 refine O.oc 2 rfl ?_
 refine J.drawStill Tryz.mixed (by kernel_rfl) ?_
 refine S.r 1 rfl ?_
 refine S.q (Qt.lv 0 A305 rfl rfl rfl) rfl ?_
 refine S.r 1 rfl ?_
 refine S.q (Qt.lv 7 A3 rfl rfl rfl) rfl ?_
 refine S.r 1 rfl ?_
 refine S.q (Qt.lv 0 A3 rfl rfl rfl) rfl ?_
 refine S.r 3 rfl ?_
 refine S.gz (Qt.lv 0 A305 rfl rfl rfl) rfl rfl ?_
 refine S.r 1 rfl ?_
 refine S.gz (Qt.lv 7 A3 rfl rfl rfl) rfl rfl ?_
 refine S.r 1 rfl ?_
 refine S.gz (Qt.lv 0 A3 rfl rfl rfl) rfl rfl ?_
 refine S.r 2 rfl ?_
 refine S.endJ ?_
 refine J.co 4 rfl ?_
 refine O.p (Pu.add' rfl rfl (by decide)) rfl ?_
 refine O.oc 2 rfl ?_
 refine J.again ?_
 refine J.co 11 rfl ?_
 refine O.q (Qt.lv 7 A3 rfl rfl rfl) rfl ?_
 refine O.oo 1 rfl ?_
 refine O.q (Qt.lv 7 A3 rfl rfl rfl) rfl ?_
 refine O.oc 8 rfl ?_
 exact J.r0 rfl rfl ⟨rfl, rfl⟩

set_option maxRecDepth 100000 in
theorem nb209 (g228 : Nat) (g235 : Nat) (V230 : Value) (V233 : Value) (g240 : Nat) (g243 : Nat) (g246 : Nat) (b224 : Nat) (g225 : Nat) (g247 : Nat) : Tri Tryz.prog 78 #[.pointer (some ⟨g228, 0, none⟩), .agg #[.int .i64 3, .int .i64 (-1), .int .i64 0, .int .i64 1, .int .i64 50, .int .i64 9]] [] [var g228 [.pointer (some ⟨g235, 0, none⟩), .int .i64 2, .int .i64 4, .int .i64 1000, .int .u64 1, V230, .int .i64 0, .int .i64 1, .int .i64 1, .int .i64 10, .int .i64 1, .int .i64 64, .int .i64 20, .int .i64 1, .int .i64 4, .int .i64 10, .int .i64 5, .int .i64 1, .int .i64 3, .int .i64 2, V233, .int .i64 0, .int .i64 0, .int .i64 2, .int .i64 0, .pointer (some ⟨g240, 0, none⟩), .pointer (some ⟨g243, 0, none⟩), .pointer (some ⟨g246, 0, none⟩), .map (some b224), .pointer (some ⟨g225, 0, none⟩), .pointer (some ⟨g247, 0, none⟩)] 90, row V230 56 14 ([[.int .i64 1, .int .i64 1, .int .i64 10, .int .i64 1, .int .i64 64, .int .i64 20, .int .i64 1, .int .i64 4, .int .i64 10, .int .i64 5, .int .i64 1, .int .i64 3, .int .i64 2, Value.slice none 0 0]].map id)] (fun v L' => v = .bool true ∧ L' = [var g228 [.pointer (some ⟨g235, 0, none⟩), .int .i64 2, .int .i64 4, .int .i64 1000, .int .u64 1, V230, .int .i64 0, .int .i64 1, .int .i64 1, .int .i64 10, .int .i64 1, .int .i64 64, .int .i64 20, .int .i64 1, .int .i64 4, .int .i64 10, .int .i64 5, .int .i64 1, .int .i64 3, .int .i64 2, V233, .int .i64 0, .int .i64 0, .int .i64 2, .int .i64 0, .pointer (some ⟨g240, 0, none⟩), .pointer (some ⟨g243, 0, none⟩), .pointer (some ⟨g246, 0, none⟩), .map (some b224), .pointer (some ⟨g225, 0, none⟩), .pointer (some ⟨g247, 0, none⟩)] 90, row V230 56 14 ([[.int .i64 1, .int .i64 1, .int .i64 10, .int .i64 1, .int .i64 64, .int .i64 20, .int .i64 1, .int .i64 4, .int .i64 10, .int .i64 5, .int .i64 1, .int .i64 3, .int .i64 2, Value.slice none 0 0]].map id)]) := by
 refine Tri.en F78 rfl K78 rfl fun w0 => ?_
 refine J.co 2 rfl ?_
 refine O.l (Lo.bx rfl rfl) rfl ?_
 rintro _ _ ⟨g369, rfl, rfl⟩
 refine O.oc 3 rfl ?_
 refine J.dm [(0, false), (1, true), (2, false), (3, false), (4, false), (5, false), (6, false), (7, false), (8, false), (9, false), (10, false), (11, false), (12, false), (13, false), (14, false), (15, false), (16, false), (17, false), (18, false), (19, false), (20, true), (21, false), (22, false), (23, false), (24, false), (25, false), (26, false), (27, false), (28, false), (29, false), (30, true), (31, false), (32, false), (33, false)] [0, 1] Tryz.mixed (by kernel_rfl) rfl ?_
 refine Mx.q rfl (Qt.lva 0 A41 Z41 rfl rfl rfl) rfl ?_
 refine Mx.l rfl (Lo.ca C175 nb208 [] rfl rfl .nil) rfl ?_
 rintro _ _ ⟨_, ⟨rfl, rfl⟩, rfl⟩
 refine MxK.al [0, 1] rfl (by kernel_rfl) ?_
 refine Mx.r 3 rfl ?_
 refine Mx.gz (Qt.lv 0 A3 rfl rfl rfl) rfl rfl rfl ?_
 refine Mx.r 3 rfl ?_
 refine Mx.gz (Qt.lv 1 A3 rfl rfl rfl) rfl rfl rfl ?_
 refine Mx.r 4 rfl ?_
 refine Mx.gz (Qt.lv 0 A3 rfl rfl rfl) rfl rfl rfl ?_
 refine Mx.r 5 rfl ?_
 refine Mx.gskipL (t := 21) rfl rfl rfl (no_bool (by decide)) rfl rfl ?_
 refine MxK.gp [0, 1] [0, 1] rfl rfl ?_
 refine Mx.r 4 rfl ?_
 refine Mx.gz (Qt.lv 0 A3 rfl rfl rfl) rfl rfl rfl ?_
 refine Mx.r 3 rfl ?_
 refine Mx.gz (Qt.lva 1 A25 Z25 rfl rfl rfl) rfl rfl rfl ?_
 refine Mx.gy (Lo.ca C52 (nb98 V230) [2] rfl rfl .nil) rfl rfl rfl ?_
 rintro _ _ ⟨_, ⟨rfl, rfl⟩, rfl⟩
 refine MxK.gp [1, 2] [0, 1] rfl rfl ?_
 refine Mx.r 3 rfl ?_
 refine Mx.nil ?_
 exact J.r1 [2, 0] rfl rfl rfl ⟨rfl, rfl⟩

set_option maxRecDepth 100000 in
theorem nb210 (g244 : Nat) (b245 : Nat) (V358 : Value) : Tri Tryz.prog 314 #[.pointer (some ⟨g244, 0, none⟩), .int .i64 3] [] [var g244 [.map (some b245), .int .i64 1, V358] 294, mi b245 (Value.int .i64) [(2, 0)]] (fun v L' => v = .tuple #[.int .i64 0, .bool false] ∧ L' = [var g244 [.map (some b245), .int .i64 1, V358] 294, mi b245 (Value.int .i64) [(2, 0)]]) := by
 refine Tri.en F314 rfl K314 rfl fun w0 => ?_
 refine J.co 10 rfl ?_
 refine O.q (Qt.lv 0 A178 rfl rfl rfl) rfl ?_
 refine O.oo 1 rfl ?_
 refine O.q (Qt.lkOk (V := .int .i64 0) (q := false) N178 N3 Y3 rfl rfl (Mc.own 1 b245 rfl rfl) rfl rfl) rfl ?_
 refine O.oc 13 rfl ?_
 exact J.rn [_, _] [0, 1] rfl ⟨rfl, rfl, trivial⟩ rfl ⟨rfl, rfl⟩

set_option maxRecDepth 100000 in
theorem nb211 (g244 : Nat) (b245 : Nat) (V358 : Value) : Tri Tryz.prog 259 #[.pointer (some ⟨g244, 0, none⟩), .int .i64 3] [] [var g244 [.map (some b245), .int .i64 1, V358] 294, mi b245 (Value.int .i64) [(2, 0)]] (fun v L' => v = .tuple #[.agg #[.int .i64 0, .int .i64 0, .int .i64 0, .int .i64 0, .int .i64 0, .int .i64 0, .int .i64 0], .bool false] ∧ L' = [var g244 [.map (some b245), .int .i64 1, V358] 294, mi b245 (Value.int .i64) [(2, 0)]]) := by
 refine Tri.en F259 rfl K259 rfl fun w0 => ?_
 refine J.co 2 rfl ?_
 refine O.l (Lo.al Y66 rfl) rfl ?_
 rintro _ _ ⟨g379, rfl, rfl⟩
 refine O.oo 6 rfl ?_
 refine O.p (Pu.someEq N163 rfl) rfl ?_
 refine O.oo 9 rfl ?_
 refine O.l (Lo.ca C314 (nb210 g244 b245 V358) [1, 2] rfl rfl .nil) rfl ?_
 rintro _ _ ⟨_, ⟨rfl, rfl⟩, rfl⟩
 refine O.oo 15 rfl ?_
 refine O.p (Pu.build [] [.int .i64 0, .int .i64 0, .int .i64 0, .int .i64 0, .int .i64 0, .int .i64 0, .int .i64 0] #[(0, 1), (1, 1), (2, 1), (3, 1), (4, 1), (5, 1), (6, 1)] U66 Y66 (places66 N66) rfl (by kernel_rfl)) rfl ?_
 refine O.l0 (Lo.st 2 Z66 rfl rfl rfl rfl rfl rfl rfl) ?_
 rintro _ _ rfl
 refine O.oc 2 rfl ?_
 exact J.rn [_, _] [0, 1] rfl ⟨⟨_, _, 0, 0, _, rfl, Cel.var 2 rfl, rfl, Cut.agg _ A66 Z66 rfl rfl⟩, rfl, trivial⟩ rfl ⟨rfl, rfl⟩

set_option maxRecDepth 100000 in
theorem nb212 (g243 : Nat) (g244 : Nat) (b245 : Nat) (V358 : Value) : Tri Tryz.prog 176 #[.pointer (some ⟨g243, 0, none⟩), .int .i64 3] [] [var g243 [.pointer (some ⟨g244, 0, none⟩), .int .i64 1] 206, var g244 [.map (some b245), .int .i64 1, V358] 294, mi b245 (Value.int .i64) [(2, 0)]] (fun v L' => v = .bool false ∧ L' = [var g243 [.pointer (some ⟨g244, 0, none⟩), .int .i64 1] 206, var g244 [.map (some b245), .int .i64 1, V358] 294, mi b245 (Value.int .i64) [(2, 0)]]) := by
 refine Tri.en F176 rfl K176 rfl fun w0 => ?_
 refine J.co 7 rfl ?_
 refine O.l (Lo.ca C114 (nb115 g243 g244) [0] rfl rfl .nil) rfl ?_
 rintro _ _ ⟨_, ⟨rfl, rfl⟩, rfl⟩
 refine O.oo 1 rfl ?_
 refine O.l (Lo.ca C259 (nb211 g244 b245 V358) [1, 2] rfl rfl .nil) rfl ?_
 rintro _ _ ⟨_, ⟨rfl, rfl⟩, rfl⟩
 refine O.oo 3 rfl ?_
 refine O.l (Lo.al Y66 rfl) rfl ?_
 rintro _ _ ⟨g380, rfl, rfl⟩
 refine O.l0 (Lo.st 0 Z66 rfl rfl rfl rfl rfl rfl rfl) ?_
 rintro _ _ rfl
 refine O.oc 7 rfl ?_
 exact J.r1 [3, 1, 2] rfl rfl rfl ⟨rfl, rfl⟩

set_option maxRecDepth 100000 in
theorem nb213 (g240 : Nat) (V241 : Value) (b242 : Nat) : Tri Tryz.prog 260 #[.pointer (some ⟨g240, 0, none⟩), .int .i64 3] [] [var g240 [V241, .int .i64 0, .int .i64 2, .map (some b242)] 180, mi b242 (Value.int .i64) [(1, 0), (2, 1)]] (fun v L' => v = .bool false ∧ L' = [var g240 [V241, .int .i64 0, .int .i64 2, .map (some b242)] 180, mi b242 (Value.int .i64) [(1, 0), (2, 1)]]) := by
 refine Tri.en F260 rfl K260 rfl fun w0 => ?_
 refine J.co 8 rfl ?_
 refine O.p (Pu.someEq N83 rfl) rfl ?_
 refine O.oo 8 rfl ?_
 refine O.q (Qt.lv 0 A178 rfl rfl rfl) rfl ?_
 refine O.oo 1 rfl ?_
 refine O.q (Qt.lkOk (V := .int .i64 0) (q := false) N178 N3 Y3 rfl rfl (Mc.own 1 b242 rfl rfl) rfl rfl) rfl ?_
 refine O.oc 11 rfl ?_
 exact J.r1 [0, 1] rfl rfl rfl ⟨rfl, rfl⟩

set_option maxRecDepth 100000 in
theorem nb214 (g240 : Nat) (V241 : Value) (b242 : Nat) : Tri Tryz.prog 122 #[.pointer (some ⟨g240, 0, none⟩), .int .i64 2] [] [var g240 [V241, .int .i64 0, .int .i64 2, .map (some b242)] 180, row V241 3 1 ([[.int .i64 1], [.int .i64 2], [.int .i64 0], [.int .i64 0], [.int .i64 0], [.int .i64 0], [.int .i64 0], [.int .i64 0], [.int .i64 0], [.int .i64 0], [.int .i64 0], [.int .i64 0], [.int .i64 0], [.int .i64 0], [.int .i64 0], [.int .i64 0], [.int .i64 0], [.int .i64 0], [.int .i64 0], [.int .i64 0], [.int .i64 0], [.int .i64 0], [.int .i64 0], [.int .i64 0], [.int .i64 0], [.int .i64 0], [.int .i64 0], [.int .i64 0], [.int .i64 0], [.int .i64 0], [.int .i64 0], [.int .i64 0], [.int .i64 0], [.int .i64 0], [.int .i64 0], [.int .i64 0], [.int .i64 0], [.int .i64 0], [.int .i64 0], [.int .i64 0], [.int .i64 0], [.int .i64 0], [.int .i64 0], [.int .i64 0], [.int .i64 0], [.int .i64 0], [.int .i64 0], [.int .i64 0], [.int .i64 0], [.int .i64 0], [.int .i64 0], [.int .i64 0], [.int .i64 0], [.int .i64 0], [.int .i64 0], [.int .i64 0], [.int .i64 0], [.int .i64 0], [.int .i64 0], [.int .i64 0], [.int .i64 0], [.int .i64 0], [.int .i64 0], [.int .i64 0]].map id)] (fun v L' => v = .int .i64 2 ∧ L' = [var g240 [V241, .int .i64 0, .int .i64 2, .map (some b242)] 180, row V241 3 1 ([[.int .i64 1], [.int .i64 2], [.int .i64 0], [.int .i64 0], [.int .i64 0], [.int .i64 0], [.int .i64 0], [.int .i64 0], [.int .i64 0], [.int .i64 0], [.int .i64 0], [.int .i64 0], [.int .i64 0], [.int .i64 0], [.int .i64 0], [.int .i64 0], [.int .i64 0], [.int .i64 0], [.int .i64 0], [.int .i64 0], [.int .i64 0], [.int .i64 0], [.int .i64 0], [.int .i64 0], [.int .i64 0], [.int .i64 0], [.int .i64 0], [.int .i64 0], [.int .i64 0], [.int .i64 0], [.int .i64 0], [.int .i64 0], [.int .i64 0], [.int .i64 0], [.int .i64 0], [.int .i64 0], [.int .i64 0], [.int .i64 0], [.int .i64 0], [.int .i64 0], [.int .i64 0], [.int .i64 0], [.int .i64 0], [.int .i64 0], [.int .i64 0], [.int .i64 0], [.int .i64 0], [.int .i64 0], [.int .i64 0], [.int .i64 0], [.int .i64 0], [.int .i64 0], [.int .i64 0], [.int .i64 0], [.int .i64 0], [.int .i64 0], [.int .i64 0], [.int .i64 0], [.int .i64 0], [.int .i64 0], [.int .i64 0], [.int .i64 0], [.int .i64 0], [.int .i64 0]].map id)]) := by
 refine Tri.en F122 rfl K122 rfl fun w0 => ?_
 refine J.cc 5 rfl ?_
 refine J.drawStill Tryz.mixed (by kernel_rfl) ?_
 refine S.r 3 rfl ?_
 refine S.q (Qt.lv 0 A3 rfl rfl rfl) rfl ?_
 refine S.r 1 rfl ?_
 refine S.p (Pu.add' rfl rfl (by decide)) rfl ?_
 refine S.r 3 rfl ?_
 refine S.q (Qt.lv 0 A60 rfl rfl rfl) rfl ?_
 refine S.q (Qt.lenM U60 rfl (Src.row 1 rfl)) rfl ?_
 refine S.p (Pu.rem rfl rfl (by decide)) rfl ?_
 refine S.r 1 rfl ?_
 refine S.endJ ?_
 exact J.r1 [0, 1] rfl rfl rfl ⟨rfl, rfl⟩

set_option maxRecDepth 100000 in
theorem nb215 (g240 : Nat) (V241 : Value) (b242 : Nat) : Tri Tryz.prog 177 #[.pointer (some ⟨g240, 0, none⟩), .int .i64 3] [] [var g240 [V241, .int .i64 0, .int .i64 2, .map (some b242)] 180, mi b242 (Value.int .i64) [(1, 0), (2, 1)], row V241 3 1 ([[.int .i64 1], [.int .i64 2], [.int .i64 0], [.int .i64 0], [.int .i64 0], [.int .i64 0], [.int .i64 0], [.int .i64 0], [.int .i64 0], [.int .i64 0], [.int .i64 0], [.int .i64 0], [.int .i64 0], [.int .i64 0], [.int .i64 0], [.int .i64 0], [.int .i64 0], [.int .i64 0], [.int .i64 0], [.int .i64 0], [.int .i64 0], [.int .i64 0], [.int .i64 0], [.int .i64 0], [.int .i64 0], [.int .i64 0], [.int .i64 0], [.int .i64 0], [.int .i64 0], [.int .i64 0], [.int .i64 0], [.int .i64 0], [.int .i64 0], [.int .i64 0], [.int .i64 0], [.int .i64 0], [.int .i64 0], [.int .i64 0], [.int .i64 0], [.int .i64 0], [.int .i64 0], [.int .i64 0], [.int .i64 0], [.int .i64 0], [.int .i64 0], [.int .i64 0], [.int .i64 0], [.int .i64 0], [.int .i64 0], [.int .i64 0], [.int .i64 0], [.int .i64 0], [.int .i64 0], [.int .i64 0], [.int .i64 0], [.int .i64 0], [.int .i64 0], [.int .i64 0], [.int .i64 0], [.int .i64 0], [.int .i64 0], [.int .i64 0], [.int .i64 0], [.int .i64 0]].map id)] (fun v L' => v = .bool true ∧ L' = [var g240 [V241, .int .i64 0, .int .i64 3, .map (some b242)] 180, mi b242 (Value.int .i64) [(1, 0), (2, 1), (3, 2)], row V241 3 1 ([[.int .i64 1], [.int .i64 2], [.int .i64 3], [.int .i64 0], [.int .i64 0], [.int .i64 0], [.int .i64 0], [.int .i64 0], [.int .i64 0], [.int .i64 0], [.int .i64 0], [.int .i64 0], [.int .i64 0], [.int .i64 0], [.int .i64 0], [.int .i64 0], [.int .i64 0], [.int .i64 0], [.int .i64 0], [.int .i64 0], [.int .i64 0], [.int .i64 0], [.int .i64 0], [.int .i64 0], [.int .i64 0], [.int .i64 0], [.int .i64 0], [.int .i64 0], [.int .i64 0], [.int .i64 0], [.int .i64 0], [.int .i64 0], [.int .i64 0], [.int .i64 0], [.int .i64 0], [.int .i64 0], [.int .i64 0], [.int .i64 0], [.int .i64 0], [.int .i64 0], [.int .i64 0], [.int .i64 0], [.int .i64 0], [.int .i64 0], [.int .i64 0], [.int .i64 0], [.int .i64 0], [.int .i64 0], [.int .i64 0], [.int .i64 0], [.int .i64 0], [.int .i64 0], [.int .i64 0], [.int .i64 0], [.int .i64 0], [.int .i64 0], [.int .i64 0], [.int .i64 0], [.int .i64 0], [.int .i64 0], [.int .i64 0], [.int .i64 0], [.int .i64 0], [.int .i64 0]].map id)]) := by
 refine Tri.en F177 rfl K177 rfl fun w0 => ?_
 refine J.co 9 rfl ?_
 refine O.l (Lo.ca C260 (nb213 g240 V241 b242) [0, 1] rfl rfl .nil) rfl ?_
 rintro _ _ ⟨_, ⟨rfl, rfl⟩, rfl⟩
 refine O.oo 7 rfl ?_
 refine O.p (Pu.someEq N83 rfl) rfl ?_
 refine O.oo 4 rfl ?_
 refine O.gz (Qt.lv 0 A60 rfl rfl rfl) rfl rfl ?_
 refine O.gz (Qt.lenM U60 rfl (Src.row 2 rfl)) rfl rfl ?_
 refine O.oc 7 rfl ?_
 refine J.drawStill Tryz.mixed (by kernel_rfl) ?_
 refine S.r 3 rfl ?_
 refine S.q (Qt.lv 0 A3 rfl rfl rfl) rfl ?_
 refine S.r 3 rfl ?_
 refine S.q (Qt.lv 0 A60 rfl rfl rfl) rfl ?_
 refine S.q (Qt.lenM U60 rfl (Src.row 2 rfl)) rfl ?_
 refine S.r 1 rfl ?_
 refine S.endJ ?_
 refine J.co 8 rfl ?_
 refine O.q (Qt.lv 0 A3 rfl rfl rfl) rfl ?_
 refine O.l (Lo.ca C122 (nb214 g240 V241 b242) [0, 2] rfl rfl .nil) rfl ?_
 rintro _ _ ⟨_, ⟨rfl, rfl⟩, rfl⟩
 refine O.oc 3 rfl ?_
 refine J.dm [(0, false), (1, false), (2, false), (3, false), (4, false), (5, false), (6, false), (7, false), (8, false), (9, false), (10, false), (11, false), (12, false), (13, true), (14, true), (15, false), (16, true)] [0, 1] Tryz.mixed (by kernel_rfl) rfl ?_
 refine Mx.r 3 rfl ?_
 refine Mx.q rfl (Qt.lv 0 A60 rfl rfl rfl) rfl ?_
 refine Mx.r 4 rfl ?_
 refine Mx.q rfl (Qt.lv 0 A178 rfl rfl rfl) rfl ?_
 refine Mx.r 3 rfl ?_
 refine Mx.q rfl (Qt.ix U60 Z3 rfl (Src.row 1 rfl) (j := 2) (a := [.int .i64 0]) rfl rfl rfl) rfl ?_
 refine Mx.l0 rfl (Lo.storeM 1 (j := 2) (off := 0) (vs := [.int .i64 3]) (e := [.int .i64 0]) [.int .i64 3] rfl rfl rfl rfl (by omega) rfl rfl Z3 rfl rfl rfl rfl rfl) ?_
 rintro _ _ rfl
 refine MxK.al [0, 1] rfl (by kernel_rfl) ?_
 refine Mx.l rfl (Lo.mapEnt 2 N178 N3 Y3 rfl rfl rfl) rfl ?_
 rintro _ _ ⟨V381, x382, rfl, rfl⟩
 refine MxK.al [0, 1] rfl (by kernel_rfl) ?_
 refine Mx.r 1 rfl ?_
 refine Mx.l0 rfl (Lo.entSt (u := 2) 2 rfl rfl rfl rfl) ?_
 rintro _ _ rfl
 refine MxK.al [0, 1] rfl (by kernel_rfl) ?_
 refine Mx.nil ?_
 refine J.co 5 rfl ?_
 refine O.q (Qt.lv 0 A3 rfl rfl rfl) rfl ?_
 refine O.p (Pu.add' rfl rfl (by decide)) rfl ?_
 refine O.oo 2 rfl ?_
 refine O.l0 (Lo.st 0 Z3 rfl rfl rfl rfl rfl rfl rfl) ?_
 rintro _ _ rfl
 refine O.oc 5 rfl ?_
 exact J.r1 [0, 2, 1] rfl rfl rfl ⟨rfl, rfl⟩

set_option maxRecDepth 100000 in
theorem nb216 (g228 : Nat) (g235 : Nat) (V230 : Value) (V233 : Value) (g240 : Nat) (g243 : Nat) (g246 : Nat) (b224 : Nat) (g225 : Nat) (g247 : Nat) (g244 : Nat) (b245 : Nat) (V358 : Value) (V241 : Value) (b242 : Nat) : Tri Tryz.prog 79 #[.pointer (some ⟨g228, 0, none⟩), .int .i64 3] [] [var g228 [.pointer (some ⟨g235, 0, none⟩), .int .i64 2, .int .i64 4, .int .i64 1000, .int .u64 1, V230, .int .i64 0, .int .i64 1, .int .i64 1, .int .i64 10, .int .i64 1, .int .i64 64, .int .i64 20, .int .i64 1, .int .i64 4, .int .i64 10, .int .i64 5, .int .i64 1, .int .i64 3, .int .i64 2, V233, .int .i64 0, .int .i64 0, .int .i64 2, .int .i64 0, .pointer (some ⟨g240, 0, none⟩), .pointer (some ⟨g243, 0, none⟩), .pointer (some ⟨g246, 0, none⟩), .map (some b224), .pointer (some ⟨g225, 0, none⟩), .pointer (some ⟨g247, 0, none⟩)] 90, mi b224 (id : Value → Value) [(1, (.agg #[.int .i64 1, .int .i64 2, .int .i64 (-1), .int .i64 50, .int .i64 9, .int .i64 0, .int .i64 1, .int .i64 1, Value.slice none 0 0] : Value))], var g243 [.pointer (some ⟨g244, 0, none⟩), .int .i64 1] 206, var g244 [.map (some b245), .int .i64 1, V358] 294, mi b245 (Value.int .i64) [(2, 0)], var g240 [V241, .int .i64 0, .int .i64 2, .map (some b242)] 180, mi b242 (Value.int .i64) [(1, 0), (2, 1)], row V241 3 1 ([[.int .i64 1], [.int .i64 2], [.int .i64 0], [.int .i64 0], [.int .i64 0], [.int .i64 0], [.int .i64 0], [.int .i64 0], [.int .i64 0], [.int .i64 0], [.int .i64 0], [.int .i64 0], [.int .i64 0], [.int .i64 0], [.int .i64 0], [.int .i64 0], [.int .i64 0], [.int .i64 0], [.int .i64 0], [.int .i64 0], [.int .i64 0], [.int .i64 0], [.int .i64 0], [.int .i64 0], [.int .i64 0], [.int .i64 0], [.int .i64 0], [.int .i64 0], [.int .i64 0], [.int .i64 0], [.int .i64 0], [.int .i64 0], [.int .i64 0], [.int .i64 0], [.int .i64 0], [.int .i64 0], [.int .i64 0], [.int .i64 0], [.int .i64 0], [.int .i64 0], [.int .i64 0], [.int .i64 0], [.int .i64 0], [.int .i64 0], [.int .i64 0], [.int .i64 0], [.int .i64 0], [.int .i64 0], [.int .i64 0], [.int .i64 0], [.int .i64 0], [.int .i64 0], [.int .i64 0], [.int .i64 0], [.int .i64 0], [.int .i64 0], [.int .i64 0], [.int .i64 0], [.int .i64 0], [.int .i64 0], [.int .i64 0], [.int .i64 0], [.int .i64 0], [.int .i64 0]].map id)] (fun v L' => v = .bool false ∧ L' = [var g228 [.pointer (some ⟨g235, 0, none⟩), .int .i64 2, .int .i64 4, .int .i64 1000, .int .u64 1, V230, .int .i64 0, .int .i64 1, .int .i64 1, .int .i64 10, .int .i64 1, .int .i64 64, .int .i64 20, .int .i64 1, .int .i64 4, .int .i64 10, .int .i64 5, .int .i64 1, .int .i64 3, .int .i64 2, V233, .int .i64 0, .int .i64 0, .int .i64 2, .int .i64 0, .pointer (some ⟨g240, 0, none⟩), .pointer (some ⟨g243, 0, none⟩), .pointer (some ⟨g246, 0, none⟩), .map (some b224), .pointer (some ⟨g225, 0, none⟩), .pointer (some ⟨g247, 0, none⟩)] 90, mi b224 (id : Value → Value) [(1, (.agg #[.int .i64 1, .int .i64 2, .int .i64 (-1), .int .i64 50, .int .i64 9, .int .i64 0, .int .i64 1, .int .i64 1, Value.slice none 0 0] : Value))], var g243 [.pointer (some ⟨g244, 0, none⟩), .int .i64 1] 206, var g244 [.map (some b245), .int .i64 1, V358] 294, mi b245 (Value.int .i64) [(2, 0)], var g240 [V241, .int .i64 0, .int .i64 3, .map (some b242)] 180, mi b242 (Value.int .i64) [(1, 0), (2, 1), (3, 2)], row V241 3 1 ([[.int .i64 1], [.int .i64 2], [.int .i64 3], [.int .i64 0], [.int .i64 0], [.int .i64 0], [.int .i64 0], [.int .i64 0], [.int .i64 0], [.int .i64 0], [.int .i64 0], [.int .i64 0], [.int .i64 0], [.int .i64 0], [.int .i64 0], [.int .i64 0], [.int .i64 0], [.int .i64 0], [.int .i64 0], [.int .i64 0], [.int .i64 0], [.int .i64 0], [.int .i64 0], [.int .i64 0], [.int .i64 0], [.int .i64 0], [.int .i64 0], [.int .i64 0], [.int .i64 0], [.int .i64 0], [.int .i64 0], [.int .i64 0], [.int .i64 0], [.int .i64 0], [.int .i64 0], [.int .i64 0], [.int .i64 0], [.int .i64 0], [.int .i64 0], [.int .i64 0], [.int .i64 0], [.int .i64 0], [.int .i64 0], [.int .i64 0], [.int .i64 0], [.int .i64 0], [.int .i64 0], [.int .i64 0], [.int .i64 0], [.int .i64 0], [.int .i64 0], [.int .i64 0], [.int .i64 0], [.int .i64 0], [.int .i64 0], [.int .i64 0], [.int .i64 0], [.int .i64 0], [.int .i64 0], [.int .i64 0], [.int .i64 0], [.int .i64 0], [.int .i64 0], [.int .i64 0]].map id)]) := by
 refine Tri.en F79 rfl K79 rfl fun w0 => ?_
 refine J.co 9 rfl ?_
 refine O.q (Qt.lv 0 A86 rfl rfl rfl) rfl ?_
 refine O.oo 1 rfl ?_
 refine O.q (Qt.lkOk (V := .agg #[.int .i64 0, .int .i64 0, .int .i64 0, .int .i64 0, .int .i64 0, .int .i64 0, .int .i64 0, .int .i64 0, Value.slice none 0 0]) (q := false) N86 N3 Y68 rfl rfl (Mc.own 1 b224 rfl rfl) rfl rfl) rfl ?_
 refine O.oo 3 rfl ?_
 refine O.l (Lo.al Y68 rfl) rfl ?_
 rintro _ _ ⟨g378, rfl, rfl⟩
 refine O.l0 (Lo.st 0 Z68 rfl rfl rfl rfl rfl rfl rfl) ?_
 rintro _ _ rfl
 refine O.oo 9 rfl ?_
 refine O.gz (Qt.lv 1 A84 rfl rfl rfl) rfl rfl ?_
 refine O.oo 1 rfl ?_
 refine O.gy (Lo.ca C176 (nb212 g243 g244 b245 V358) [3, 4, 5] rfl rfl .nil) rfl rfl ?_
 rintro _ _ ⟨_, ⟨rfl, rfl⟩, rfl⟩
 refine O.oo 5 rfl ?_
 refine O.gz (Qt.lv 4 A83 rfl rfl rfl) rfl rfl ?_
 refine O.oo 1 rfl ?_
 refine O.gy (Lo.ca C177 (nb215 g240 V241 b242) [6, 7, 8] rfl rfl .nil) rfl rfl ?_
 rintro _ _ ⟨_, ⟨rfl, rfl⟩, rfl⟩
 refine O.oc 4 rfl ?_
 exact J.r1 [7, 8, 3, 4, 5, 0, 1, 2] rfl rfl rfl ⟨rfl, rfl⟩

set_option maxRecDepth 100000 in
theorem nb217 (g238 : Nat) : Tri Tryz.prog 315 #[.pointer (some ⟨g238, 0, none⟩), .int .i64 1] [] [var g238 (.int .i64 8 :: .int .i64 0 :: .int .i64 0 :: .int .i64 1 :: .int .i64 1 :: (rp 124 (.int .i64 0) [])) 302] (fun v L' => v = .bool true ∧ L' = [var g238 (.int .i64 8 :: .int .i64 0 :: .int .i64 0 :: .int .i64 1 :: .int .i64 1 :: (rp 124 (.int .i64 0) [])) 302]) := by
 refine Tri.en F315 rfl K315 rfl fun w0 => ?_
 refine J.co 7 rfl ?_
 refine O.p (Pu.ptrNe N169 rfl) rfl ?_
 refine O.oo 9 rfl ?_
 refine O.gz (Qt.lv 0 A3 rfl rfl rfl) rfl rfl ?_
 refine O.oc 4 rfl ?_
 exact J.r1 [0] rfl rfl rfl ⟨rfl, rfl⟩

set_option maxRecDepth 100000 in
theorem nb218 (g238 : Nat) : Tri Tryz.prog 261 #[.pointer (some ⟨g238, 0, none⟩), .int .i64 1, .int .i64 1] [] [var g238 (.int .i64 8 :: .int .i64 0 :: .int .i64 0 :: .int .i64 1 :: .int .i64 1 :: (rp 124 (.int .i64 0) [])) 302] (fun v L' => v = .bool true ∧ L' = [var g238 (.int .i64 8 :: .int .i64 0 :: .int .i64 1 :: .int .i64 1 :: .int .i64 1 :: (rp 124 (.int .i64 0) [])) 302]) := by
 refine Tri.en F261 rfl K261 rfl fun w0 => ?_
 refine J.co 9 rfl ?_
 refine O.l (Lo.ca C315 (nb217 g238) [0] rfl rfl .nil) rfl ?_
 rintro _ _ ⟨_, ⟨rfl, rfl⟩, rfl⟩
 refine O.oc 5 rfl ?_
 refine J.dm [(0, false), (1, false), (2, false), (3, false), (4, false), (5, false), (6, false), (7, false), (8, false), (10, false), (11, false), (9, true), (12, false), (13, true)] [0] Tryz.mixed (by kernel_rfl) rfl ?_
 refine Mx.r 6 rfl ?_
 refine Mx.p rfl (Pu.indexAddrK 2 U300 Z3 rfl rfl (by decide) (by decide) rfl) rfl ?_
 refine Mx.q rfl (Qt.lv 0 A3 rfl rfl rfl) rfl ?_
 refine Mx.r 3 rfl ?_
 refine Mx.l rfl (Lo.ca C288 nb129 [] rfl rfl .nil) rfl ?_
 rintro _ _ ⟨_, ⟨rfl, rfl⟩, rfl⟩
 refine MxK.gp [0] [0] rfl rfl ?_
 refine Mx.p rfl (Pu.indexAddrK 2 U300 Z3 rfl rfl (by decide) (by decide) rfl) rfl ?_
 refine Mx.l0 rfl (Lo.st 0 Z3 rfl rfl rfl rfl rfl rfl rfl) ?_
 rintro _ _ rfl
 refine MxK.al [0] rfl (by kernel_rfl) ?_
 refine Mx.nil ?_
 refine J.cc 4 rfl ?_
 exact J.r1 [0] rfl rfl rfl ⟨rfl, rfl⟩

set_option maxRecDepth 100000 in
theorem nb219 (g238 : Nat) : Tri Tryz.prog 178 #[.pointer (some ⟨g238, 0, none⟩), .int .i64 1] [] [var g238 (.int .i64 8 :: .int .i64 0 :: .int .i64 0 :: .int .i64 1 :: .int .i64 1 :: (rp 124 (.int .i64 0) [])) 302] (fun v L' => v = .bool true ∧ L' = [var g238 (.int .i64 8 :: .int .i64 0 :: .int .i64 1 :: .int .i64 1 :: .int .i64 1 :: (rp 124 (.int .i64 0) [])) 302]) := by
 refine Tri.en F178 rfl K178 rfl fun w0 => ?_
 refine J.co 8 rfl ?_
 refine O.l (Lo.ca C261 (nb218 g238) [0] rfl rfl .nil) rfl ?_
 rintro _ _ ⟨_, ⟨rfl, rfl⟩, rfl⟩
 refine O.oc 2 rfl ?_
 exact J.r1 [0] rfl rfl rfl ⟨rfl, rfl⟩

set_option maxRecDepth 100000 in
theorem nb220 (g235 : Nat) (g236 : Nat) (g237 : Nat) (g238 : Nat) (g239 : Nat) : Tri Tryz.prog 81 #[.pointer (some ⟨g235, 0, none⟩), .int .i64 1] [] [var g235 [.pointer (some ⟨g236, 0, none⟩), .pointer (some ⟨g237, 0, none⟩), .int .i64 8, .int .i64 1, .int .i64 1, .int .i64 4, .int .i64 10, .int .i64 5, .int .i64 1, .int .i64 3, .int .i64 2, .pointer (some ⟨g238, 0, none⟩), .pointer (some ⟨g239, 0, none⟩), .int .i64 8, .int .i64 1] 172, var g238 (.int .i64 8 :: .int .i64 0 :: .int .i64 0 :: .int .i64 1 :: .int .i64 1 :: (rp 124 (.int .i64 0) [])) 302] (fun v L' => v = .bool true ∧ L' = [var g235 [.pointer (some ⟨g236, 0, none⟩), .pointer (some ⟨g237, 0, none⟩), .int .i64 8, .int .i64 1, .int .i64 1, .int .i64 4, .int .i64 10, .int .i64 5, .int .i64 1, .int .i64 3, .int .i64 2, .pointer (some ⟨g238, 0, none⟩), .pointer (some ⟨g239, 0, none⟩), .int .i64 8, .int .i64 1] 172, var g238 (.int .i64 8 :: .int .i64 0 :: .int .i64 1 :: .int .i64 1 :: .int .i64 1 :: (rp 124 (.int .i64 0) [])) 302]) := by
 refine Tri.en F81 rfl K81 rfl fun w0 => ?_
 refine J.co 7 rfl ?_
 refine O.l (Lo.ca C173 (nb123 g235 g236 g237 g238 g239) [0] rfl rfl .nil) rfl ?_
 rintro _ _ ⟨_, ⟨rfl, rfl⟩, rfl⟩
 refine O.oo 4 rfl ?_
 refine O.gz (Qt.lv 0 A169 rfl rfl rfl) rfl rfl ?_
 refine O.oo 1 rfl ?_
 refine O.gy (Lo.ca C178 (nb219 g238) [1] rfl rfl .nil) rfl rfl ?_
 rintro _ _ ⟨_, ⟨rfl, rfl⟩, rfl⟩
 refine O.oc 3 rfl ?_
 exact J.r1 [1, 0] rfl rfl rfl ⟨rfl, rfl⟩

set_option maxRecDepth 100000 in
theorem nb221 : Tri Tryz.prog 262 #[.int .i64 1, .int .i64 8] [] [] (fun v L' => v = .bool true ∧ L' = []) := by
 refine Tri.en F262 rfl K262 rfl fun w0 => ?_
 refine J.cc 15 rfl ?_
 exact J.r0 rfl rfl ⟨rfl, rfl⟩

set_option maxRecDepth 100000 in
theorem nb222 (g235 : Nat) (g236 : Nat) (g237 : Nat) (g238 : Nat) (g239 : Nat) : Tri Tryz.prog 179 #[.pointer (some ⟨g235, 0, none⟩), .int .i64 1] [] [var g235 [.pointer (some ⟨g236, 0, none⟩), .pointer (some ⟨g237, 0, none⟩), .int .i64 8, .int .i64 1, .int .i64 1, .int .i64 4, .int .i64 10, .int .i64 5, .int .i64 1, .int .i64 3, .int .i64 2, .pointer (some ⟨g238, 0, none⟩), .pointer (some ⟨g239, 0, none⟩), .int .i64 8, .int .i64 1] 172] (fun v L' => v = .bool true ∧ L' = [var g235 [.pointer (some ⟨g236, 0, none⟩), .pointer (some ⟨g237, 0, none⟩), .int .i64 8, .int .i64 1, .int .i64 1, .int .i64 4, .int .i64 10, .int .i64 5, .int .i64 1, .int .i64 3, .int .i64 2, .pointer (some ⟨g238, 0, none⟩), .pointer (some ⟨g239, 0, none⟩), .int .i64 8, .int .i64 1] 172]) := by
 refine Tri.en F179 rfl K179 rfl fun w0 => ?_
 refine J.co 8 rfl ?_
 refine O.l (Lo.ca C44 (nb133 g235 g236 g237 g238 g239) [0] rfl rfl .nil) rfl ?_
 rintro _ _ ⟨_, ⟨rfl, rfl⟩, rfl⟩
 refine O.l (Lo.ca C262 nb221 [] rfl rfl .nil) rfl ?_
 rintro _ _ ⟨_, ⟨rfl, rfl⟩, rfl⟩
 refine O.oc 2 rfl ?_
 exact J.r1 [0] rfl rfl rfl ⟨rfl, rfl⟩

set_option maxRecDepth 100000 in
theorem nb223 (g228 : Nat) (g235 : Nat) (V230 : Value) (V233 : Value) (g240 : Nat) (g243 : Nat) (g246 : Nat) (b224 : Nat) (g225 : Nat) (g247 : Nat) (g236 : Nat) (g237 : Nat) (g238 : Nat) (g239 : Nat) : Tri Tryz.prog 82 #[.pointer (some ⟨g228, 0, none⟩), .agg #[.int .i64 3, .int .i64 (-1), .int .i64 0, .int .i64 1, .int .i64 50, .int .i64 9]] [] [var g228 [.pointer (some ⟨g235, 0, none⟩), .int .i64 2, .int .i64 4, .int .i64 1000, .int .u64 1, V230, .int .i64 0, .int .i64 1, .int .i64 1, .int .i64 10, .int .i64 1, .int .i64 64, .int .i64 20, .int .i64 1, .int .i64 4, .int .i64 10, .int .i64 5, .int .i64 1, .int .i64 3, .int .i64 2, V233, .int .i64 0, .int .i64 0, .int .i64 2, .int .i64 0, .pointer (some ⟨g240, 0, none⟩), .pointer (some ⟨g243, 0, none⟩), .pointer (some ⟨g246, 0, none⟩), .map (some b224), .pointer (some ⟨g225, 0, none⟩), .pointer (some ⟨g247, 0, none⟩)] 90, var g235 [.pointer (some ⟨g236, 0, none⟩), .pointer (some ⟨g237, 0, none⟩), .int .i64 8, .int .i64 1, .int .i64 1, .int .i64 4, .int .i64 10, .int .i64 5, .int .i64 1, .int .i64 3, .int .i64 2, .pointer (some ⟨g238, 0, none⟩), .pointer (some ⟨g239, 0, none⟩), .int .i64 8, .int .i64 1] 172] (fun v L' => v = .int .i64 0 ∧ L' = [var g228 [.pointer (some ⟨g235, 0, none⟩), .int .i64 2, .int .i64 4, .int .i64 1000, .int .u64 1, V230, .int .i64 0, .int .i64 1, .int .i64 1, .int .i64 10, .int .i64 1, .int .i64 64, .int .i64 20, .int .i64 1, .int .i64 4, .int .i64 10, .int .i64 5, .int .i64 1, .int .i64 3, .int .i64 2, V233, .int .i64 0, .int .i64 0, .int .i64 2, .int .i64 0, .pointer (some ⟨g240, 0, none⟩), .pointer (some ⟨g243, 0, none⟩), .pointer (some ⟨g246, 0, none⟩), .map (some b224), .pointer (some ⟨g225, 0, none⟩), .pointer (some ⟨g247, 0, none⟩)] 90, var g235 [.pointer (some ⟨g236, 0, none⟩), .pointer (some ⟨g237, 0, none⟩), .int .i64 8, .int .i64 1, .int .i64 1, .int .i64 4, .int .i64 10, .int .i64 5, .int .i64 1, .int .i64 3, .int .i64 2, .pointer (some ⟨g238, 0, none⟩), .pointer (some ⟨g239, 0, none⟩), .int .i64 8, .int .i64 1] 172]) := by
 refine Tri.en F82 rfl K82 rfl fun w0 => ?_
 refine J.co 2 rfl ?_
 refine O.l (Lo.bx rfl rfl) rfl ?_
 rintro _ _ ⟨g383, rfl, rfl⟩
 refine O.oc 5 rfl ?_
 refine J.drawStill Tryz.mixed (by kernel_rfl) ?_
 refine S.r 1 rfl ?_
 refine S.q (Qt.lv 0 A3 rfl rfl rfl) rfl ?_
 refine S.r 3 rfl ?_
 refine S.q (Qt.lv 1 A3 rfl rfl rfl) rfl ?_
 refine S.r 2 rfl ?_
 refine S.endJ ?_
 refine J.cc 2 rfl ?_
 refine J.drawTail 6 Tryz.mixed (by kernel_rfl) ?_
 refine S.r 3 rfl ?_
 refine S.q (Qt.lv 1 A82 rfl rfl rfl) rfl ?_
 refine S.r 1 rfl ?_
 refine S.q (Qt.lv 0 A3 rfl rfl rfl) rfl ?_
 refine S.endO ?_
 refine O.l (Lo.ca C179 (nb222 g235 g236 g237 g238 g239) [2] rfl rfl .nil) rfl ?_
 rintro _ _ ⟨_, ⟨rfl, rfl⟩, rfl⟩
 refine O.oc 10 rfl ?_
 exact J.r1 [2, 0] rfl rfl rfl ⟨rfl, rfl⟩

set_option maxRecDepth 100000 in
theorem nb224 (g228 : Nat) (g235 : Nat) (V230 : Value) (V233 : Value) (g240 : Nat) (g243 : Nat) (g246 : Nat) (b224 : Nat) (g225 : Nat) (g247 : Nat) : Tri Tryz.prog 42 #[.pointer (some ⟨g228, 0, none⟩)] [] [var g228 [.pointer (some ⟨g235, 0, none⟩), .int .i64 2, .int .i64 4, .int .i64 1000, .int .u64 1, V230, .int .i64 0, .int .i64 1, .int .i64 1, .int .i64 10, .int .i64 1, .int .i64 64, .int .i64 20, .int .i64 1, .int .i64 4, .int .i64 10, .int .i64 5, .int .i64 1, .int .i64 3, .int .i64 2, V233, .int .i64 0, .int .i64 0, .int .i64 2, .int .i64 0, .pointer (some ⟨g240, 0, none⟩), .pointer (some ⟨g243, 0, none⟩), .pointer (some ⟨g246, 0, none⟩), .map (some b224), .pointer (some ⟨g225, 0, none⟩), .pointer (some ⟨g247, 0, none⟩)] 90] (fun v L' => v = .pointer (some ⟨g235, 0, none⟩) ∧ L' = [var g228 [.pointer (some ⟨g235, 0, none⟩), .int .i64 2, .int .i64 4, .int .i64 1000, .int .u64 1, V230, .int .i64 0, .int .i64 1, .int .i64 1, .int .i64 10, .int .i64 1, .int .i64 64, .int .i64 20, .int .i64 1, .int .i64 4, .int .i64 10, .int .i64 5, .int .i64 1, .int .i64 3, .int .i64 2, V233, .int .i64 0, .int .i64 0, .int .i64 2, .int .i64 0, .pointer (some ⟨g240, 0, none⟩), .pointer (some ⟨g243, 0, none⟩), .pointer (some ⟨g246, 0, none⟩), .map (some b224), .pointer (some ⟨g225, 0, none⟩), .pointer (some ⟨g247, 0, none⟩)] 90]) := by
 refine Tri.en F42 rfl K42 rfl fun w0 => ?_
 refine J.co 8 rfl ?_
 refine O.p (Pu.someEq N29 rfl) rfl ?_
 refine O.oo 8 rfl ?_
 refine O.q (Qt.lv 0 A82 rfl rfl rfl) rfl ?_
 refine O.oc 2 rfl ?_
 exact J.r1 [0] rfl rfl rfl ⟨rfl, rfl⟩

set_option maxRecDepth 100000 in
theorem nb225 (g228 : Nat) (g235 : Nat) (V230 : Value) (V233 : Value) (g240 : Nat) (g243 : Nat) (g246 : Nat) (b224 : Nat) (g225 : Nat) (g247 : Nat) (g236 : Nat) (g237 : Nat) (g238 : Nat) (g239 : Nat) : Tri Tryz.prog 18 #[.pointer (some ⟨g228, 0, none⟩)] [] [var g228 [.pointer (some ⟨g235, 0, none⟩), .int .i64 2, .int .i64 4, .int .i64 1000, .int .u64 1, V230, .int .i64 0, .int .i64 1, .int .i64 1, .int .i64 10, .int .i64 1, .int .i64 64, .int .i64 20, .int .i64 1, .int .i64 4, .int .i64 10, .int .i64 5, .int .i64 1, .int .i64 3, .int .i64 2, V233, .int .i64 0, .int .i64 0, .int .i64 2, .int .i64 0, .pointer (some ⟨g240, 0, none⟩), .pointer (some ⟨g243, 0, none⟩), .pointer (some ⟨g246, 0, none⟩), .map (some b224), .pointer (some ⟨g225, 0, none⟩), .pointer (some ⟨g247, 0, none⟩)] 90, var g235 [.pointer (some ⟨g236, 0, none⟩), .pointer (some ⟨g237, 0, none⟩), .int .i64 8, .int .i64 1, .int .i64 1, .int .i64 4, .int .i64 10, .int .i64 5, .int .i64 1, .int .i64 3, .int .i64 2, .pointer (some ⟨g238, 0, none⟩), .pointer (some ⟨g239, 0, none⟩), .int .i64 8, .int .i64 1] 172] (fun v L' => v = .int .i64 8 ∧ L' = [var g228 [.pointer (some ⟨g235, 0, none⟩), .int .i64 2, .int .i64 4, .int .i64 1000, .int .u64 1, V230, .int .i64 0, .int .i64 1, .int .i64 1, .int .i64 10, .int .i64 1, .int .i64 64, .int .i64 20, .int .i64 1, .int .i64 4, .int .i64 10, .int .i64 5, .int .i64 1, .int .i64 3, .int .i64 2, V233, .int .i64 0, .int .i64 0, .int .i64 2, .int .i64 0, .pointer (some ⟨g240, 0, none⟩), .pointer (some ⟨g243, 0, none⟩), .pointer (some ⟨g246, 0, none⟩), .map (some b224), .pointer (some ⟨g225, 0, none⟩), .pointer (some ⟨g247, 0, none⟩)] 90, var g235 [.pointer (some ⟨g236, 0, none⟩), .pointer (some ⟨g237, 0, none⟩), .int .i64 8, .int .i64 1, .int .i64 1, .int .i64 4, .int .i64 10, .int .i64 5, .int .i64 1, .int .i64 3, .int .i64 2, .pointer (some ⟨g238, 0, none⟩), .pointer (some ⟨g239, 0, none⟩), .int .i64 8, .int .i64 1] 172]) := by
 refine Tri.en F18 rfl K18 rfl fun w0 => ?_
 refine J.co 7 rfl ?_
 refine O.l (Lo.ca C42 (nb224 g228 g235 V230 V233 g240 g243 g246 b224 g225 g247) [0] rfl rfl .nil) rfl ?_
 rintro _ _ ⟨_, ⟨rfl, rfl⟩, rfl⟩
 refine O.l (Lo.ca C44 (nb133 g235 g236 g237 g238 g239) [1] rfl rfl .nil) rfl ?_
 rintro _ _ ⟨_, ⟨rfl, rfl⟩, rfl⟩
 refine O.oc 2 rfl ?_
 exact J.r1 [1, 0] rfl rfl rfl ⟨rfl, rfl⟩

set_option maxRecDepth 100000 in
theorem nb226 (g368 : Nat) (g228 : Nat) (g235 : Nat) (V230 : Value) (V233 : Value) (g240 : Nat) (g243 : Nat) (g246 : Nat) (b224 : Nat) (g225 : Nat) (g247 : Nat) : Tri Tryz.prog 80 #[.pointer (some ⟨g368, 0, none⟩), .int .i64 1, .int .i64 3, .int .i64 0, .int .i64 1, .int .i64 8] [] [var g368 [.pointer (some ⟨g228, 0, none⟩), Value.slice none 0 0, Value.slice none 0 0] 261, var g228 [.pointer (some ⟨g235, 0, none⟩), .int .i64 2, .int .i64 4, .int .i64 1000, .int .u64 1, V230, .int .i64 0, .int .i64 1, .int .i64 1, .int .i64 10, .int .i64 1, .int .i64 64, .int .i64 20, .int .i64 1, .int .i64 4, .int .i64 10, .int .i64 5, .int .i64 1, .int .i64 3, .int .i64 2, V233, .int .i64 0, .int .i64 0, .int .i64 2, .int .i64 0, .pointer (some ⟨g240, 0, none⟩), .pointer (some ⟨g243, 0, none⟩), .pointer (some ⟨g246, 0, none⟩), .map (some b224), .pointer (some ⟨g225, 0, none⟩), .pointer (some ⟨g247, 0, none⟩)] 90] (fun v L' => ∃ (V385 : Value), v = .tuple #[] ∧ L' = [var g368 [.pointer (some ⟨g228, 0, none⟩), V385, Value.slice none 0 0] 261, var g228 [.pointer (some ⟨g235, 0, none⟩), .int .i64 2, .int .i64 4, .int .i64 1000, .int .u64 1, V230, .int .i64 0, .int .i64 1, .int .i64 1, .int .i64 10, .int .i64 1, .int .i64 64, .int .i64 20, .int .i64 1, .int .i64 4, .int .i64 10, .int .i64 5, .int .i64 1, .int .i64 3, .int .i64 2, V233, .int .i64 0, .int .i64 0, .int .i64 2, .int .i64 0, .pointer (some ⟨g240, 0, none⟩), .pointer (some ⟨g243, 0, none⟩), .pointer (some ⟨g246, 0, none⟩), .map (some b224), .pointer (some ⟨g225, 0, none⟩), .pointer (some ⟨g247, 0, none⟩)] 90, row V385 51 7 ([[.int .i64 1, .int .i64 0, .int .i64 0, .int .i64 3, .int .i64 0, .int .i64 1, .int .i64 8]].map id)]) := by
 refine Tri.en F80 rfl K80 rfl fun w0 => ?_
 refine J.dm [(0, false), (1, false), (2, false), (3, false), (4, false), (5, false), (6, false), (7, false), (8, false), (9, false), (10, false), (11, false), (12, false), (13, false), (14, false), (15, false), (16, false), (17, false), (18, false), (19, false), (20, false), (21, false), (22, false), (23, false), (24, false), (25, false), (26, true), (27, true), (28, false), (29, false), (30, false), (31, true)] [0, 1] Tryz.mixed (by kernel_rfl) rfl ?_
 refine Mx.r 5 rfl ?_
 refine Mx.q rfl (Qt.lv 0 A33 rfl rfl rfl) rfl ?_
 refine Mx.r 4 rfl ?_
 refine Mx.q rfl (Qt.lv 0 A29 rfl rfl rfl) rfl ?_
 refine Mx.r 2 rfl ?_
 refine Mx.q rfl (Qt.lv 1 A3 rfl rfl rfl) rfl ?_
 refine Mx.r 3 rfl ?_
 refine Mx.q rfl (Qt.lv 0 A29 rfl rfl rfl) rfl ?_
 refine Mx.r 2 rfl ?_
 refine Mx.q rfl (Qt.lv 1 A3 rfl rfl rfl) rfl ?_
 refine Mx.r 4 rfl ?_
 refine Mx.p rfl (Pu.build [(0, .int .i64 1), (1, .int .i64 0), (2, .int .i64 0), (3, .int .i64 3), (4, .int .i64 0), (5, .int .i64 1), (6, .int .i64 8)] [.int .i64 1, .int .i64 0, .int .i64 0, .int .i64 3, .int .i64 0, .int .i64 1, .int .i64 8] #[(0, 1), (1, 1), (2, 1), (3, 1), (4, 1), (5, 1), (6, 1)] U51 Y51 (places51 N51) rfl (by kernel_rfl)) rfl ?_
 refine Mx.l rfl (Lo.bm id [[.int .i64 1, .int .i64 0, .int .i64 0, .int .i64 3, .int .i64 0, .int .i64 1, .int .i64 8]] U33 Z51 Y51 rfl rfl rfl (by kernel_rfl) rfl rfl) rfl ?_
 rintro V384 _ rfl
 refine MxK.gp [1, 2] [0, 1] rfl rfl ?_
 refine Mx.nr 51 7 (([] : List (List Value)).map id) rfl rfl rfl ?_
 refine Mx.l rfl (Lo.am 0 N33 info51 rfl rfl rfl rfl rfl (Src.row 1 rfl) (id_one rfl) (Nat.le_of_ble_eq_true rfl) (Nat.le_of_ble_eq_true rfl)) rfl ?_
 rintro V385 _ rfl
 refine MxK.gp [2, 3] [0, 1] rfl rfl ?_
 refine Mx.r 3 rfl ?_
 refine Mx.one rfl (fun _ h => by cases h <;> rfl) (Src.row 0 rfl) (fun hV386 => ?_)
 refine Mx.l0 rfl (Lo.so 2 Z33 hV386 rfl rfl rfl rfl) ?_
 rintro _ _ rfl
 refine MxK.al [2, 3] rfl (by kernel_rfl) ?_
 refine Mx.nil ?_
 exact J.dn [] [2, 3, 0] rfl trivial rfl ⟨V385, rfl, rfl⟩

set_option maxRecDepth 100000 in
theorem nb227 : Tri Tryz.prog 84 #[.agg #[.int .i64 3, .int .i64 (-1), .int .i64 0, .int .i64 1, .int .i64 50, .int .i64 9], .int .i64 0, .int .i64 3] [] [] (fun v L' => v = .agg #[.int .i64 3, .int .i64 1, .int .i64 (-1), .int .i64 50, .int .i64 9, .int .i64 0, .int .i64 3] ∧ L' = []) := by
 refine Tri.en F84 rfl K84 rfl fun w0 => ?_
 refine J.co 2 rfl ?_
 refine O.l (Lo.bx rfl rfl) rfl ?_
 rintro _ _ ⟨g389, rfl, rfl⟩
 refine O.l (Lo.al Y66 rfl) rfl ?_
 rintro _ _ ⟨g390, rfl, rfl⟩
 refine O.oo 4 rfl ?_
 refine O.q (Qt.lv 1 A3 rfl rfl rfl) rfl ?_
 refine O.oo 1 rfl ?_
 refine O.q (Qt.lv 1 A3 rfl rfl rfl) rfl ?_
 refine O.oo 1 rfl ?_
 refine O.q (Qt.lv 1 A3 rfl rfl rfl) rfl ?_
 refine O.oo 1 rfl ?_
 refine O.q (Qt.lv 1 A3 rfl rfl rfl) rfl ?_
 refine O.oo 1 rfl ?_
 refine O.q (Qt.lv 1 A3 rfl rfl rfl) rfl ?_
 refine O.oo 2 rfl ?_
 refine O.p (Pu.build [(0, .int .i64 3), (1, .int .i64 1), (2, .int .i64 (-1)), (3, .int .i64 50), (4, .int .i64 9), (5, .int .i64 0), (6, .int .i64 3)] [.int .i64 3, .int .i64 1, .int .i64 (-1), .int .i64 50, .int .i64 9, .int .i64 0, .int .i64 3] #[(0, 1), (1, 1), (2, 1), (3, 1), (4, 1), (5, 1), (6, 1)] U66 Y66 (places66 N66) rfl (by kernel_rfl)) rfl ?_
 refine O.l0 (Lo.st 0 Z66 rfl rfl rfl rfl rfl rfl rfl) ?_
 rintro _ _ rfl
 refine O.oc 1 rfl ?_
 exact J.rn [_] [] rfl ⟨⟨_, _, 0, 0, _, rfl, Cel.var 0 rfl, rfl, Cut.agg _ A66 Z66 rfl rfl⟩, trivial⟩ rfl ⟨rfl, rfl⟩

set_option maxRecDepth 100000 in
theorem nb228 (g244 : Nat) (b245 : Nat) (V358 : Value) : Tri Tryz.prog 263 #[.pointer (some ⟨g244, 0, none⟩), .agg #[.int .i64 3, .int .i64 1, .int .i64 (-1), .int .i64 50, .int .i64 9, .int .i64 0, .int .i64 3]] [] [var g244 [.map (some b245), .int .i64 1, V358] 294, mi b245 (Value.int .i64) [(2, 0)], row V358 66 7 ([[.int .i64 2, .int .i64 3, .int .i64 (-1), .int .i64 50, .int .i64 9, .int .i64 0, .int .i64 2]].map id)] (fun v L' => v = .int .i64 6 ∧ L' = [var g244 [.map (some b245), .int .i64 1, V358] 294, mi b245 (Value.int .i64) [(2, 0)], row V358 66 7 ([[.int .i64 2, .int .i64 3, .int .i64 (-1), .int .i64 50, .int .i64 9, .int .i64 0, .int .i64 2]].map id)]) := by
 refine Tri.en F263 rfl K263 rfl fun w0 => ?_
 refine J.co 2 rfl ?_
 refine O.l (Lo.bx rfl rfl) rfl ?_
 rintro _ _ ⟨g393, rfl, rfl⟩
 refine O.oo 7 rfl ?_
 refine O.q (Qt.lv 0 A3 rfl rfl rfl) rfl ?_
 refine O.l (Lo.ca C259 (nb211 g244 b245 V358) [1, 2] rfl rfl .nil) rfl ?_
 rintro _ _ ⟨_, ⟨rfl, rfl⟩, rfl⟩
 refine O.oo 3 rfl ?_
 refine O.l (Lo.al Y66 rfl) rfl ?_
 rintro _ _ ⟨g394, rfl, rfl⟩
 refine O.l0 (Lo.st 0 Z66 rfl rfl rfl rfl rfl rfl rfl) ?_
 rintro _ _ rfl
 refine O.oc 10 rfl ?_
 refine J.drawStill Tryz.mixed (by kernel_rfl) ?_
 refine S.r 1 rfl ?_
 refine S.p (Pu.someEq N163 rfl) rfl ?_
 refine S.r 4 rfl ?_
 refine S.gz (Qt.lv 1 A52 rfl rfl rfl) rfl rfl ?_
 refine S.gz (Qt.lenM U52 rfl (Src.row 4 rfl)) rfl rfl ?_
 refine S.r 3 rfl ?_
 refine S.gz (Qt.lv 1 A3 rfl rfl rfl) rfl rfl ?_
 refine S.r 2 rfl ?_
 refine S.endJ ?_
 refine J.cc 5 rfl ?_
 exact J.r1 [1, 2, 4] rfl rfl rfl ⟨rfl, rfl⟩

set_option maxRecDepth 100000 in
theorem nb229 (g244 : Nat) (b245 : Nat) (V358 : Value) : Tri Tryz.prog 219 #[.pointer (some ⟨g244, 0, none⟩)] [] [var g244 [.map (some b245), .int .i64 1, V358] 294, row V358 66 7 ([[.int .i64 2, .int .i64 3, .int .i64 (-1), .int .i64 50, .int .i64 9, .int .i64 0, .int .i64 2]].map id)] (fun v L' => v = .int .i64 1 ∧ L' = [var g244 [.map (some b245), .int .i64 1, V358] 294, row V358 66 7 ([[.int .i64 2, .int .i64 3, .int .i64 (-1), .int .i64 50, .int .i64 9, .int .i64 0, .int .i64 2]].map id)]) := by
 refine Tri.en F219 rfl K219 rfl fun w0 => ?_
 refine J.co 8 rfl ?_
 refine O.p (Pu.someEq N163 rfl) rfl ?_
 refine O.oo 8 rfl ?_
 refine O.q (Qt.lv 0 A52 rfl rfl rfl) rfl ?_
 refine O.q (Qt.lenM U52 rfl (Src.row 1 rfl)) rfl ?_
 refine O.oc 2 rfl ?_
 exact J.r1 [0, 1] rfl rfl rfl ⟨rfl, rfl⟩

set_option maxRecDepth 100000 in
theorem nb230 (V397 : Value) : Tri Tryz.prog 377 #[V397, .int .i64 0, .int .i64 1, .func (.func 295) #[] #[]] [] [] (fun v L' => v = .tuple #[] ∧ L' = []) := by
 refine Tri.en F377 rfl K377 rfl fun w0 => ?_
 refine J.co 3 rfl ?_
 refine O.p (Pu.add' rfl rfl (by decide)) rfl ?_
 refine O.oc 3 rfl ?_
 refine J.un ?_
 refine J.cc 9 rfl ?_
 exact J.dn [] [] rfl trivial rfl ⟨rfl, rfl⟩

set_option maxRecDepth 100000 in
theorem nb231 (V397 : Value) : Tri Tryz.prog 342 #[V397, .int .i64 1, .func (.func 295) #[] #[]] [] [] (fun v L' => v = .tuple #[] ∧ L' = []) := by
 refine Tri.en F342 rfl K342 rfl fun w0 => ?_
 refine J.cc 12 rfl ?_
 refine J.un ?_
 refine J.co 15 rfl ?_
 refine O.l (Lo.ca C377 (nb230 V397) [] rfl rfl .nil) rfl ?_
 rintro _ _ ⟨_, ⟨rfl, rfl⟩, rfl⟩
 refine O.oc 2 rfl ?_
 refine J.un ?_
 refine J.cc 9 rfl ?_
 exact J.dn [] [] rfl trivial rfl ⟨rfl, rfl⟩

set_option maxRecDepth 100000 in
theorem nb232 (V397 : Value) : Tri Tryz.prog 294 #[V397, .func (.func 295) #[] #[]] [] [row V397 66 7 ([[.int .i64 2, .int .i64 3, .int .i64 (-1), .int .i64 50, .int .i64 9, .int .i64 0, .int .i64 2]].map id)] (fun v L' => v = .tuple #[] ∧ L' = [row V397 66 7 ([[.int .i64 2, .int .i64 3, .int .i64 (-1), .int .i64 50, .int .i64 9, .int .i64 0, .int .i64 2]].map id)]) := by
 refine Tri.en F294 rfl K294 rfl fun w0 => ?_
 refine J.co 3 rfl ?_
 refine O.q (Qt.lenM U52 rfl (Src.row 0 rfl)) rfl ?_
 refine O.oo 1 rfl ?_
 refine O.l (Lo.ca C342 (nb231 V397) [] rfl rfl .nil) rfl ?_
 rintro _ _ ⟨_, ⟨rfl, rfl⟩, rfl⟩
 refine O.oc 1 rfl ?_
 exact J.dn [] [0] rfl trivial rfl ⟨rfl, rfl⟩

set_option maxRecDepth 100000 in
theorem nb233 (V358 : Value) : Tri Tryz.prog 220 #[V358] [] [row V358 66 7 ([[.int .i64 2, .int .i64 3, .int .i64 (-1), .int .i64 50, .int .i64 9, .int .i64 0, .int .i64 2]].map id)] (fun v L' => ∃ (V397 : Value), v = V397 ∧ L' = [row V358 66 7 ([[.int .i64 2, .int .i64 3, .int .i64 (-1), .int .i64 50, .int .i64 9, .int .i64 0, .int .i64 2]].map id), row V397 66 7 ([[.int .i64 2, .int .i64 3, .int .i64 (-1), .int .i64 50, .int .i64 9, .int .i64 0, .int .i64 2]].map id)]) := by
 refine Tri.en F220 rfl K220 rfl fun w0 => ?_
 refine J.co 6 rfl ?_
 refine O.l (Lo.buildE id U52 Z66) rfl ?_
 rintro V396 _ rfl
 refine O.oo 1 rfl ?_
 refine O.l (Lo.am 0 N52 info66 rfl rfl rfl rfl rfl (Src.row 1 rfl) (id_one rfl) (Nat.le_of_ble_eq_true rfl) (Nat.le_of_ble_eq_true rfl)) rfl ?_
 rintro V397 _ rfl
 refine O.oo 5 rfl ?_
 refine O.l (Lo.ca C294 (nb232 V397) [0] rfl rfl .nil) rfl ?_
 rintro _ _ ⟨_, ⟨rfl, rfl⟩, rfl⟩
 refine O.oc 6 rfl ?_
 exact J.r1 [1, 0] rfl rfl rfl ⟨V397, rfl, rfl⟩

set_option maxRecDepth 100000 in
theorem nb234 (g244 : Nat) (b245 : Nat) (V358 : Value) : Tri Tryz.prog 115 #[.pointer (some ⟨g244, 0, none⟩)] [] [var g244 [.map (some b245), .int .i64 1, V358] 294, row V358 66 7 ([[.int .i64 2, .int .i64 3, .int .i64 (-1), .int .i64 50, .int .i64 9, .int .i64 0, .int .i64 2]].map id)] (fun v L' => ∃ (V397 : Value), v = V397 ∧ L' = [var g244 [.map (some b245), .int .i64 1, V358] 294, row V358 66 7 ([[.int .i64 2, .int .i64 3, .int .i64 (-1), .int .i64 50, .int .i64 9, .int .i64 0, .int .i64 2]].map id), row V397 66 7 ([[.int .i64 2, .int .i64 3, .int .i64 (-1), .int .i64 50, .int .i64 9, .int .i64 0, .int .i64 2]].map id)]) := by
 refine Tri.en F115 rfl K115 rfl fun w0 => ?_
 refine J.co 8 rfl ?_
 refine O.l (Lo.ca C219 (nb229 g244 b245 V358) [0, 1] rfl rfl .nil) rfl ?_
 rintro _ _ ⟨_, ⟨rfl, rfl⟩, rfl⟩
 refine O.oo 9 rfl ?_
 refine O.q (Qt.lv 0 A52 rfl rfl rfl) rfl ?_
 refine O.l (Lo.ca C220 (nb233 V358) [1] rfl rfl .nil) rfl ?_
 rintro V397 _ ⟨_, ⟨_, rfl, rfl⟩, rfl⟩
 refine O.oc 2 rfl ?_
 exact J.r1 [2, 0, 1] rfl rfl rfl ⟨V397, rfl, rfl⟩

set_option maxRecDepth 100000 in
theorem nb235 : Tri Tryz.prog 379 #[.int .i64 3] [] [] (fun v L' => v = .bool false ∧ L' = []) := by
 refine Tri.en F379 rfl K379 rfl fun w0 => ?_
 refine J.cc 11 rfl ?_
 exact J.r0 rfl rfl ⟨rfl, rfl⟩

set_option maxRecDepth 100000 in
theorem nb236 : Tri Tryz.prog 344 #[.int .i64 3, .int .i64 3] [] [] (fun v L' => v = .int .i64 0 ∧ L' = []) := by
 refine Tri.en F344 rfl K344 rfl fun w0 => ?_
 refine J.co 7 rfl ?_
 refine O.l (Lo.ca C379 nb235 [] rfl rfl .nil) rfl ?_
 rintro _ _ ⟨_, ⟨rfl, rfl⟩, rfl⟩
 refine O.oo 5 rfl ?_
 refine O.l (Lo.ca C379 nb235 [] rfl rfl .nil) rfl ?_
 rintro _ _ ⟨_, ⟨rfl, rfl⟩, rfl⟩
 refine O.oc 38 rfl ?_
 exact J.r0 rfl rfl ⟨rfl, rfl⟩

set_option maxRecDepth 100000 in
theorem nb237 : Tri Tryz.prog 379 #[.int .i64 50] [] [] (fun v L' => v = .bool false ∧ L' = []) := by
 refine Tri.en F379 rfl K379 rfl fun w0 => ?_
 refine J.cc 11 rfl ?_
 exact J.r0 rfl rfl ⟨rfl, rfl⟩

set_option maxRecDepth 100000 in
theorem nb238 : Tri Tryz.prog 344 #[.int .i64 50, .int .i64 50] [] [] (fun v L' => v = .int .i64 0 ∧ L' = []) := by
 refine Tri.en F344 rfl K344 rfl fun w0 => ?_
 refine J.co 7 rfl ?_
 refine O.l (Lo.ca C379 nb237 [] rfl rfl .nil) rfl ?_
 rintro _ _ ⟨_, ⟨rfl, rfl⟩, rfl⟩
 refine O.oo 5 rfl ?_
 refine O.l (Lo.ca C379 nb237 [] rfl rfl .nil) rfl ?_
 rintro _ _ ⟨_, ⟨rfl, rfl⟩, rfl⟩
 refine O.oc 38 rfl ?_
 exact J.r0 rfl rfl ⟨rfl, rfl⟩

set_option maxRecDepth 100000 in
theorem nb239 : Tri Tryz.prog 379 #[.int .i64 2] [] [] (fun v L' => v = .bool false ∧ L' = []) := by
 refine Tri.en F379 rfl K379 rfl fun w0 => ?_
 refine J.cc 11 rfl ?_
 exact J.r0 rfl rfl ⟨rfl, rfl⟩

set_option maxRecDepth 100000 in
theorem nb240 : Tri Tryz.prog 344 #[.int .i64 2, .int .i64 2] [] [] (fun v L' => v = .int .i64 0 ∧ L' = []) := by
 refine Tri.en F344 rfl K344 rfl fun w0 => ?_
 refine J.co 7 rfl ?_
 refine O.l (Lo.ca C379 nb239 [] rfl rfl .nil) rfl ?_
 rintro _ _ ⟨_, ⟨rfl, rfl⟩, rfl⟩
 refine O.oo 5 rfl ?_
 refine O.l (Lo.ca C379 nb239 [] rfl rfl .nil) rfl ?_
 rintro _ _ ⟨_, ⟨rfl, rfl⟩, rfl⟩
 refine O.oc 38 rfl ?_
 exact J.r0 rfl rfl ⟨rfl, rfl⟩

set_option maxRecDepth 100000 in
theorem nb241 (V406 : Value) : Tri Tryz.prog 343 #[V406] [] [row V406 3 1 ([[.int .i64 0], [.int .i64 0], [.int .i64 0]].map id)] (fun v L' => v = .int .i64 0 ∧ L' = [row V406 3 1 ([[.int .i64 0], [.int .i64 0], [.int .i64 0]].map id)]) := by
 refine Tri.en F343 rfl K343 rfl fun w0 => ?_
 refine J.co 8 rfl ?_
 refine O.q (Qt.lenM U60 rfl (Src.row 0 rfl)) rfl ?_
 refine O.oc 3 rfl ?_
 refine J.un ?_
 refine J.co 11 rfl ?_
 refine O.q (Qt.ix U60 Z3 rfl (Src.row 0 rfl) (j := 0) (a := [.int .i64 0]) rfl rfl rfl) rfl ?_
 refine O.q (Qt.le A3 (Src.row 0 rfl) (j := 0) (a := [.int .i64 0]) rfl 0 rfl (by omega) rfl) rfl ?_
 refine O.oo 11 rfl ?_
 refine O.p (Pu.add' rfl rfl (by decide)) rfl ?_
 refine O.oc 2 rfl ?_
 refine J.again ?_
 refine J.co 11 rfl ?_
 refine O.q (Qt.ix U60 Z3 rfl (Src.row 0 rfl) (j := 1) (a := [.int .i64 0]) rfl rfl rfl) rfl ?_
 refine O.q (Qt.le A3 (Src.row 0 rfl) (j := 1) (a := [.int .i64 0]) rfl 0 rfl (by omega) rfl) rfl ?_
 refine O.oo 11 rfl ?_
 refine O.p (Pu.add' rfl rfl (by decide)) rfl ?_
 refine O.oc 2 rfl ?_
 refine J.again ?_
 refine J.co 11 rfl ?_
 refine O.q (Qt.ix U60 Z3 rfl (Src.row 0 rfl) (j := 2) (a := [.int .i64 0]) rfl rfl rfl) rfl ?_
 refine O.q (Qt.le A3 (Src.row 0 rfl) (j := 2) (a := [.int .i64 0]) rfl 0 rfl (by omega) rfl) rfl ?_
 refine O.oo 11 rfl ?_
 refine O.p (Pu.add' rfl rfl (by decide)) rfl ?_
 refine O.oc 2 rfl ?_
 refine J.again ?_
 refine J.cc 11 rfl ?_
 exact J.r1 [0] rfl rfl rfl ⟨rfl, rfl⟩

set_option maxRecDepth 100000 in
theorem nb242 : Tri Tryz.prog 295 #[.agg #[.int .i64 2, .int .i64 3, .int .i64 (-1), .int .i64 50, .int .i64 9, .int .i64 0, .int .i64 2], .agg #[.int .i64 2, .int .i64 3, .int .i64 (-1), .int .i64 50, .int .i64 9, .int .i64 0, .int .i64 2]] [] [] (fun v L' => v = .int .i64 0 ∧ L' = []) := by
 refine Tri.en F295 rfl K295 rfl fun w0 => ?_
 refine J.co 2 rfl ?_
 refine O.l (Lo.bx rfl rfl) rfl ?_
 rintro _ _ ⟨g404, rfl, rfl⟩
 refine O.l (Lo.bx rfl rfl) rfl ?_
 rintro _ _ ⟨g405, rfl, rfl⟩
 refine O.oc 3 rfl ?_
 refine J.dm [(0, false), (1, false), (2, false), (3, false), (5, false), (6, false), (7, false), (8, false), (10, false), (11, false), (12, false), (13, false), (4, true), (9, true), (14, true), (15, true), (16, true), (17, false)] [0, 1] Tryz.mixed (by kernel_rfl) rfl ?_
 refine Mx.r 1 rfl ?_
 refine Mx.q rfl (Qt.lv 1 A3 rfl rfl rfl) rfl ?_
 refine Mx.r 1 rfl ?_
 refine Mx.q rfl (Qt.lv 0 A3 rfl rfl rfl) rfl ?_
 refine Mx.r 1 rfl ?_
 refine Mx.q rfl (Qt.lv 1 A3 rfl rfl rfl) rfl ?_
 refine Mx.r 1 rfl ?_
 refine Mx.q rfl (Qt.lv 0 A3 rfl rfl rfl) rfl ?_
 refine Mx.r 1 rfl ?_
 refine Mx.q rfl (Qt.lv 1 A3 rfl rfl rfl) rfl ?_
 refine Mx.r 1 rfl ?_
 refine Mx.q rfl (Qt.lv 0 A3 rfl rfl rfl) rfl ?_
 refine Mx.l rfl (Lo.ca C344 nb238 [] rfl rfl .nil) rfl ?_
 rintro _ _ ⟨_, ⟨rfl, rfl⟩, rfl⟩
 refine MxK.gp [0, 1] [0, 1] rfl rfl ?_
 refine Mx.l rfl (Lo.ca C344 nb240 [] rfl rfl .nil) rfl ?_
 rintro _ _ ⟨_, ⟨rfl, rfl⟩, rfl⟩
 refine MxK.gp [0, 1] [0, 1] rfl rfl ?_
 refine Mx.l rfl (Lo.ca C344 nb240 [] rfl rfl .nil) rfl ?_
 rintro _ _ ⟨_, ⟨rfl, rfl⟩, rfl⟩
 refine MxK.gp [0, 1] [0, 1] rfl rfl ?_
 refine Mx.l rfl (Lo.bm id [[.int .i64 0], [.int .i64 0], [.int .i64 0]] U60 Z3 Y3 rfl rfl rfl (by kernel_rfl) rfl rfl) rfl ?_
 rintro V406 _ rfl
 refine MxK.al [1, 2] rfl (by kernel_rfl) ?_
 refine Mx.l rfl (Lo.ca C343 (nb241 V406) [0] rfl rfl .nil) rfl ?_
 rintro _ _ ⟨_, ⟨rfl, rfl⟩, rfl⟩
 refine MxK.gp [1, 2] [0, 1] rfl rfl ?_
 refine Mx.r 1 rfl ?_
 refine Mx.nil ?_
 exact J.r0 rfl rfl ⟨rfl, rfl⟩

set_option maxRecDepth 100000 in
theorem nb243 (V407 : Value) : Tri Tryz.prog 343 #[V407] [] [row V407 3 1 ([[.int .i64 0], [.int .i64 0]].map id)] (fun v L' => v = .int .i64 0 ∧ L' = [row V407 3 1 ([[.int .i64 0], [.int .i64 0]].map id)]) := by
 refine Tri.en F343 rfl K343 rfl fun w0 => ?_
 refine J.co 8 rfl ?_
 refine O.q (Qt.lenM U60 rfl (Src.row 0 rfl)) rfl ?_
 refine O.oc 3 rfl ?_
 refine J.un ?_
 refine J.co 11 rfl ?_
 refine O.q (Qt.ix U60 Z3 rfl (Src.row 0 rfl) (j := 0) (a := [.int .i64 0]) rfl rfl rfl) rfl ?_
 refine O.q (Qt.le A3 (Src.row 0 rfl) (j := 0) (a := [.int .i64 0]) rfl 0 rfl (by omega) rfl) rfl ?_
 refine O.oo 11 rfl ?_
 refine O.p (Pu.add' rfl rfl (by decide)) rfl ?_
 refine O.oc 2 rfl ?_
 refine J.again ?_
 refine J.co 11 rfl ?_
 refine O.q (Qt.ix U60 Z3 rfl (Src.row 0 rfl) (j := 1) (a := [.int .i64 0]) rfl rfl rfl) rfl ?_
 refine O.q (Qt.le A3 (Src.row 0 rfl) (j := 1) (a := [.int .i64 0]) rfl 0 rfl (by omega) rfl) rfl ?_
 refine O.oo 11 rfl ?_
 refine O.p (Pu.add' rfl rfl (by decide)) rfl ?_
 refine O.oc 2 rfl ?_
 refine J.again ?_
 refine J.cc 11 rfl ?_
 exact J.r1 [0] rfl rfl rfl ⟨rfl, rfl⟩

set_option maxRecDepth 100000 in
theorem nb244 : Tri Tryz.prog 320 #[.agg #[.int .i64 2, .int .i64 3, .int .i64 (-1), .int .i64 50, .int .i64 9, .int .i64 0, .int .i64 2], .agg #[.int .i64 2, .int .i64 3, .int .i64 (-1), .int .i64 50, .int .i64 9, .int .i64 0, .int .i64 2]] [] [] (fun v L' => v = .bool false ∧ L' = []) := by
 refine Tri.en F320 rfl K320 rfl fun w0 => ?_
 refine J.co 2 rfl ?_
 refine O.l (Lo.bx rfl rfl) rfl ?_
 rintro _ _ ⟨g402, rfl, rfl⟩
 refine O.l (Lo.bx rfl rfl) rfl ?_
 rintro _ _ ⟨g403, rfl, rfl⟩
 refine O.oc 3 rfl ?_
 refine J.dm [(0, false), (1, false), (2, false), (3, false), (5, false), (6, false), (4, true), (7, true), (8, true), (9, true), (10, false), (11, false)] [0, 1] Tryz.mixed (by kernel_rfl) rfl ?_
 refine Mx.r 1 rfl ?_
 refine Mx.q rfl (Qt.lv 1 A3 rfl rfl rfl) rfl ?_
 refine Mx.r 1 rfl ?_
 refine Mx.q rfl (Qt.lv 0 A3 rfl rfl rfl) rfl ?_
 refine Mx.q rfl (Qt.lva 1 A66 Z66 rfl rfl rfl) rfl ?_
 refine Mx.q rfl (Qt.lva 0 A66 Z66 rfl rfl rfl) rfl ?_
 refine Mx.l rfl (Lo.ca C344 nb236 [] rfl rfl .nil) rfl ?_
 rintro _ _ ⟨_, ⟨rfl, rfl⟩, rfl⟩
 refine MxK.gp [0, 1] [0, 1] rfl rfl ?_
 refine Mx.l rfl (Lo.ca C295 nb242 [] rfl rfl .nil) rfl ?_
 rintro _ _ ⟨_, ⟨rfl, rfl⟩, rfl⟩
 refine MxK.al [0, 1] rfl (by kernel_rfl) ?_
 refine Mx.l rfl (Lo.bm id [[.int .i64 0], [.int .i64 0]] U60 Z3 Y3 rfl rfl rfl (by kernel_rfl) rfl rfl) rfl ?_
 rintro V407 _ rfl
 refine MxK.al [1, 2] rfl (by kernel_rfl) ?_
 refine Mx.l rfl (Lo.ca C343 (nb243 V407) [0] rfl rfl .nil) rfl ?_
 rintro _ _ ⟨_, ⟨rfl, rfl⟩, rfl⟩
 refine MxK.gp [1, 2] [0, 1] rfl rfl ?_
 refine Mx.r 2 rfl ?_
 refine Mx.nil ?_
 exact J.r0 rfl rfl ⟨rfl, rfl⟩

set_option maxRecDepth 100000 in
theorem nb245 : Tri Tryz.prog 319 #[.agg #[.int .i64 2, .int .i64 3, .int .i64 (-1), .int .i64 50, .int .i64 9, .int .i64 0, .int .i64 2], .agg #[.int .i64 2, .int .i64 3, .int .i64 (-1), .int .i64 50, .int .i64 9, .int .i64 0, .int .i64 2]] [] [] (fun v L' => v = .bool false ∧ L' = []) := by
 refine Tri.en F319 rfl K319 rfl fun w0 => ?_
 refine J.co 2 rfl ?_
 refine O.l (Lo.bx rfl rfl) rfl ?_
 rintro _ _ ⟨g400, rfl, rfl⟩
 refine O.l (Lo.bx rfl rfl) rfl ?_
 rintro _ _ ⟨g401, rfl, rfl⟩
 refine O.oo 4 rfl ?_
 refine O.q (Qt.lva 1 A66 Z66 rfl rfl rfl) rfl ?_
 refine O.q (Qt.lva 0 A66 Z66 rfl rfl rfl) rfl ?_
 refine O.l (Lo.ca C320 nb244 [] rfl rfl .nil) rfl ?_
 rintro _ _ ⟨_, ⟨rfl, rfl⟩, rfl⟩
 refine O.oc 2 rfl ?_
 exact J.r0 rfl rfl ⟨rfl, rfl⟩

set_option maxRecDepth 100000 in
theorem nb246 : Tri Tryz.prog 379 #[.int .i64 1] [] [] (fun v L' => v = .bool false ∧ L' = []) := by
 refine Tri.en F379 rfl K379 rfl fun w0 => ?_
 refine J.cc 11 rfl ?_
 exact J.r0 rfl rfl ⟨rfl, rfl⟩

set_option maxRecDepth 100000 in
theorem nb247 : Tri Tryz.prog 344 #[.int .i64 1, .int .i64 3] [] [] (fun v L' => v = .int .i64 (-1) ∧ L' = []) := by
 refine Tri.en F344 rfl K344 rfl fun w0 => ?_
 refine J.co 7 rfl ?_
 refine O.l (Lo.ca C379 nb246 [] rfl rfl .nil) rfl ?_
 rintro _ _ ⟨_, ⟨rfl, rfl⟩, rfl⟩
 refine O.oo 5 rfl ?_
 refine O.l (Lo.ca C379 nb235 [] rfl rfl .nil) rfl ?_
 rintro _ _ ⟨_, ⟨rfl, rfl⟩, rfl⟩
 refine O.oc 28 rfl ?_
 exact J.r0 rfl rfl ⟨rfl, rfl⟩

set_option maxRecDepth 100000 in
theorem nb248 : Tri Tryz.prog 344 #[.int .i64 3, .int .i64 2] [] [] (fun v L' => v = .int .i64 1 ∧ L' = []) := by
 refine Tri.en F344 rfl K344 rfl fun w0 => ?_
 refine J.co 7 rfl ?_
 refine O.l (Lo.ca C379 nb235 [] rfl rfl .nil) rfl ?_
 rintro _ _ ⟨_, ⟨rfl, rfl⟩, rfl⟩
 refine O.oo 5 rfl ?_
 refine O.l (Lo.ca C379 nb239 [] rfl rfl .nil) rfl ?_
 rintro _ _ ⟨_, ⟨rfl, rfl⟩, rfl⟩
 refine O.oc 37 rfl ?_
 exact J.r0 rfl rfl ⟨rfl, rfl⟩

set_option maxRecDepth 100000 in
theorem nb249 (V415 : Value) : Tri Tryz.prog 343 #[V415] [] [row V415 3 1 ([[.int .i64 0], [.int .i64 1], [.int .i64 1]].map id)] (fun v L' => v = .int .i64 1 ∧ L' = [row V415 3 1 ([[.int .i64 0], [.int .i64 1], [.int .i64 1]].map id)]) := by
 refine Tri.en F343 rfl K343 rfl fun w0 => ?_
 refine J.co 8 rfl ?_
 refine O.q (Qt.lenM U60 rfl (Src.row 0 rfl)) rfl ?_
 refine O.oc 3 rfl ?_
 refine J.un ?_
 refine J.co 11 rfl ?_
 refine O.q (Qt.ix U60 Z3 rfl (Src.row 0 rfl) (j := 0) (a := [.int .i64 0]) rfl rfl rfl) rfl ?_
 refine O.q (Qt.le A3 (Src.row 0 rfl) (j := 0) (a := [.int .i64 0]) rfl 0 rfl (by omega) rfl) rfl ?_
 refine O.oo 11 rfl ?_
 refine O.p (Pu.add' rfl rfl (by decide)) rfl ?_
 refine O.oc 2 rfl ?_
 refine J.again ?_
 refine J.co 11 rfl ?_
 refine O.q (Qt.ix U60 Z3 rfl (Src.row 0 rfl) (j := 1) (a := [.int .i64 1]) rfl rfl rfl) rfl ?_
 refine O.q (Qt.le A3 (Src.row 0 rfl) (j := 1) (a := [.int .i64 1]) rfl 0 rfl (by omega) rfl) rfl ?_
 refine O.oc 13 rfl ?_
 exact J.r1 [0] rfl rfl rfl ⟨rfl, rfl⟩

set_option maxRecDepth 100000 in
theorem nb250 : Tri Tryz.prog 295 #[.agg #[.int .i64 3, .int .i64 1, .int .i64 (-1), .int .i64 50, .int .i64 9, .int .i64 0, .int .i64 3], .agg #[.int .i64 2, .int .i64 3, .int .i64 (-1), .int .i64 50, .int .i64 9, .int .i64 0, .int .i64 2]] [] [] (fun v L' => v = .int .i64 1 ∧ L' = []) := by
 refine Tri.en F295 rfl K295 rfl fun w0 => ?_
 refine J.co 2 rfl ?_
 refine O.l (Lo.bx rfl rfl) rfl ?_
 rintro _ _ ⟨g413, rfl, rfl⟩
 refine O.l (Lo.bx rfl rfl) rfl ?_
 rintro _ _ ⟨g414, rfl, rfl⟩
 refine O.oc 3 rfl ?_
 refine J.dm [(0, false), (1, false), (2, false), (3, false), (5, false), (6, false), (7, false), (8, false), (10, false), (11, false), (12, false), (13, false), (4, true), (9, true), (14, true), (15, true), (16, true), (17, false)] [0, 1] Tryz.mixed (by kernel_rfl) rfl ?_
 refine Mx.r 1 rfl ?_
 refine Mx.q rfl (Qt.lv 1 A3 rfl rfl rfl) rfl ?_
 refine Mx.r 1 rfl ?_
 refine Mx.q rfl (Qt.lv 0 A3 rfl rfl rfl) rfl ?_
 refine Mx.r 1 rfl ?_
 refine Mx.q rfl (Qt.lv 1 A3 rfl rfl rfl) rfl ?_
 refine Mx.r 1 rfl ?_
 refine Mx.q rfl (Qt.lv 0 A3 rfl rfl rfl) rfl ?_
 refine Mx.r 1 rfl ?_
 refine Mx.q rfl (Qt.lv 1 A3 rfl rfl rfl) rfl ?_
 refine Mx.r 1 rfl ?_
 refine Mx.q rfl (Qt.lv 0 A3 rfl rfl rfl) rfl ?_
 refine Mx.l rfl (Lo.ca C344 nb238 [] rfl rfl .nil) rfl ?_
 rintro _ _ ⟨_, ⟨rfl, rfl⟩, rfl⟩
 refine MxK.gp [0, 1] [0, 1] rfl rfl ?_
 refine Mx.l rfl (Lo.ca C344 nb248 [] rfl rfl .nil) rfl ?_
 rintro _ _ ⟨_, ⟨rfl, rfl⟩, rfl⟩
 refine MxK.gp [0, 1] [0, 1] rfl rfl ?_
 refine Mx.l rfl (Lo.ca C344 nb248 [] rfl rfl .nil) rfl ?_
 rintro _ _ ⟨_, ⟨rfl, rfl⟩, rfl⟩
 refine MxK.gp [0, 1] [0, 1] rfl rfl ?_
 refine Mx.l rfl (Lo.bm id [[.int .i64 0], [.int .i64 1], [.int .i64 1]] U60 Z3 Y3 rfl rfl rfl (by kernel_rfl) rfl rfl) rfl ?_
 rintro V415 _ rfl
 refine MxK.al [1, 2] rfl (by kernel_rfl) ?_
 refine Mx.l rfl (Lo.ca C343 (nb249 V415) [0] rfl rfl .nil) rfl ?_
 rintro _ _ ⟨_, ⟨rfl, rfl⟩, rfl⟩
 refine MxK.gp [1, 2] [0, 1] rfl rfl ?_
 refine Mx.r 1 rfl ?_
 refine Mx.nil ?_
 exact J.r0 rfl rfl ⟨rfl, rfl⟩

end Go.Proofs.YtohjlkjhpibkmaaGreatDoor
