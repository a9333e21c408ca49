/-
  Runs that are known throughout, printed by a program of mine.
-/
import Derived.KernelRfl
import Derived.Test.YtohjlkjhpibkmaaGreatDoorFo
import Derived.Test.YtohjlkjhpibkmaaGreatDoorLkG
import Derived.Test.YtohjlkjhpibkmaaGreatDoorNumsT
import Derived.Test.YtohjlkjhpibkmaaGreatDoorVXA
import Derived.Test.YtohjlkjhpibkmaaGreatDoorNB5
namespace Go.Proofs.YtohjlkjhpibkmaaGreatDoor
open Go Go.LK
set_option linter.unusedSimpArgs false
set_option linter.unusedVariables false

set_option maxRecDepth 100000 in
theorem nb296 (g473 : Nat) (g228 : Nat) (V503 : Value) : Tri Tryz.prog 180 #[.pointer (some ⟨g473, 0, none⟩), .agg #[.int .i64 2, .int .i64 0, .int .i64 0, .int .i64 0, .int .i64 0, .int .i64 0, .int .i64 0, .int .i64 1, .int .i64 0, .int .i64 (-1), .int .i64 1, .int .i64 8, .int .i64 1, .int .i64 1, .int .i64 0, .int .i64 0, .int .i64 0, .int .i64 0, .int .i64 0, .int .i64 0, .int .i64 0, .int .i64 0, .int .i64 0]] [] [var g473 [.pointer (some ⟨g228, 0, none⟩), V503, Value.slice none 0 0] 261] (fun v L' => ∃ (V510 : Value), v = .tuple #[] ∧ L' = [var g473 [.pointer (some ⟨g228, 0, none⟩), V503, V510] 261, row V510 62 23 ([[.int .i64 2, .int .i64 0, .int .i64 0, .int .i64 0, .int .i64 0, .int .i64 0, .int .i64 0, .int .i64 1, .int .i64 0, .int .i64 (-1), .int .i64 1, .int .i64 8, .int .i64 1, .int .i64 1, .int .i64 0, .int .i64 0, .int .i64 0, .int .i64 0, .int .i64 0, .int .i64 0, .int .i64 0, .int .i64 0, .int .i64 0]].map id)]) := by
 refine Tri.en F180 rfl K180 rfl fun w0 => ?_
 refine J.co 2 rfl ?_
 refine O.l (Lo.bx rfl rfl) rfl ?_
 rintro _ _ ⟨g508, rfl, rfl⟩
 refine O.oc 1 rfl ?_
 refine J.dm [(0, false), (1, false), (2, false), (3, false), (4, false), (5, false), (6, false), (7, true), (8, true), (9, false), (10, false), (11, false), (12, true)] [0, 1] Tryz.mixed (by kernel_rfl) rfl ?_
 refine Mx.r 5 rfl ?_
 refine Mx.q rfl (Qt.lv 1 A34 rfl rfl rfl) rfl ?_
 refine Mx.q rfl (Qt.lva 0 A62 Z62 rfl rfl rfl) rfl ?_
 refine Mx.l rfl (Lo.bm id [[.int .i64 2, .int .i64 0, .int .i64 0, .int .i64 0, .int .i64 0, .int .i64 0, .int .i64 0, .int .i64 1, .int .i64 0, .int .i64 (-1), .int .i64 1, .int .i64 8, .int .i64 1, .int .i64 1, .int .i64 0, .int .i64 0, .int .i64 0, .int .i64 0, .int .i64 0, .int .i64 0, .int .i64 0, .int .i64 0, .int .i64 0]] U34 Z62 Y62 rfl rfl rfl (by kernel_rfl) rfl rfl) rfl ?_
 rintro V509 _ rfl
 refine MxK.gp [1, 2] [0, 1] rfl rfl ?_
 refine Mx.nr 62 23 (([] : List (List Value)).map id) rfl rfl rfl ?_
 refine Mx.l rfl (Lo.am 0 N34 info62 rfl rfl rfl rfl rfl (Src.row 1 rfl) (id_one rfl) (Nat.le_of_ble_eq_true rfl) (Nat.le_of_ble_eq_true rfl)) rfl ?_
 rintro V510 _ rfl
 refine MxK.gp [2, 3] [0, 1] rfl rfl ?_
 refine Mx.r 3 rfl ?_
 refine Mx.one rfl (fun _ h => by cases h <;> rfl) (Src.row 0 rfl) (fun hV511 => ?_)
 refine Mx.l0 rfl (Lo.so 3 Z34 hV511 rfl rfl rfl rfl) ?_
 rintro _ _ rfl
 refine MxK.al [2, 3] rfl (by kernel_rfl) ?_
 refine Mx.nil ?_
 exact J.dn [] [3, 0] rfl trivial rfl ⟨V510, rfl, rfl⟩

set_option maxRecDepth 100000 in
theorem nb297 (g473 : Nat) (g228 : Nat) (g235 : Nat) (V230 : Value) (V233 : Value) (g240 : Nat) (g243 : Nat) (g246 : Nat) (b224 : Nat) (g225 : Nat) (g247 : Nat) (g236 : Nat) (g237 : Nat) (g238 : Nat) (g239 : Nat) : Tri Tryz.prog 83 #[.pointer (some ⟨g473, 0, none⟩), .agg #[.int .i64 1, .int .i64 2, .int .i64 (-1), .int .i64 50, .int .i64 9, .int .i64 0, .int .i64 1], .int .i64 1] [] [var g473 [.pointer (some ⟨g228, 0, none⟩), Value.slice none 0 0, Value.slice none 0 0] 261, var g228 [.pointer (some ⟨g235, 0, none⟩), .int .i64 2, .int .i64 4, .int .i64 1000, .int .u64 1, V230, .int .i64 0, .int .i64 1, .int .i64 1, .int .i64 10, .int .i64 1, .int .i64 64, .int .i64 20, .int .i64 1, .int .i64 4, .int .i64 10, .int .i64 5, .int .i64 1, .int .i64 3, .int .i64 2, V233, .int .i64 0, .int .i64 0, .int .i64 3, .int .i64 0, .pointer (some ⟨g240, 0, none⟩), .pointer (some ⟨g243, 0, none⟩), .pointer (some ⟨g246, 0, none⟩), .map (some b224), .pointer (some ⟨g225, 0, none⟩), .pointer (some ⟨g247, 0, none⟩)] 90, var g235 [.pointer (some ⟨g236, 0, none⟩), .pointer (some ⟨g237, 0, none⟩), .int .i64 8, .int .i64 1, .int .i64 1, .int .i64 4, .int .i64 10, .int .i64 5, .int .i64 1, .int .i64 3, .int .i64 2, .pointer (some ⟨g238, 0, none⟩), .pointer (some ⟨g239, 0, none⟩), .int .i64 8, .int .i64 1] 172, var g237 [.bool true, .int .i64 1, .int .i64 1, .int .i64 32] 296] (fun v L' => ∃ (V503 : Value) (V510 : Value), v = .tuple #[] ∧ L' = [var g473 [.pointer (some ⟨g228, 0, none⟩), V503, V510] 261, var g228 [.pointer (some ⟨g235, 0, none⟩), .int .i64 2, .int .i64 4, .int .i64 1000, .int .u64 1, V230, .int .i64 0, .int .i64 1, .int .i64 1, .int .i64 10, .int .i64 1, .int .i64 64, .int .i64 20, .int .i64 1, .int .i64 4, .int .i64 10, .int .i64 5, .int .i64 1, .int .i64 3, .int .i64 2, V233, .int .i64 0, .int .i64 0, .int .i64 3, .int .i64 0, .pointer (some ⟨g240, 0, none⟩), .pointer (some ⟨g243, 0, none⟩), .pointer (some ⟨g246, 0, none⟩), .map (some b224), .pointer (some ⟨g225, 0, none⟩), .pointer (some ⟨g247, 0, none⟩)] 90, var g235 [.pointer (some ⟨g236, 0, none⟩), .pointer (some ⟨g237, 0, none⟩), .int .i64 8, .int .i64 1, .int .i64 1, .int .i64 4, .int .i64 10, .int .i64 5, .int .i64 1, .int .i64 3, .int .i64 2, .pointer (some ⟨g238, 0, none⟩), .pointer (some ⟨g239, 0, none⟩), .int .i64 8, .int .i64 1] 172, var g237 [.bool true, .int .i64 1, .int .i64 1, .int .i64 32] 296, row V503 51 7 ([[.int .i64 4, .int .i64 0, .int .i64 0, .int .i64 1, .int .i64 1, .int .i64 2, .int .i64 0]].map id), row V510 62 23 ([[.int .i64 2, .int .i64 0, .int .i64 0, .int .i64 0, .int .i64 0, .int .i64 0, .int .i64 0, .int .i64 1, .int .i64 0, .int .i64 (-1), .int .i64 1, .int .i64 8, .int .i64 1, .int .i64 1, .int .i64 0, .int .i64 0, .int .i64 0, .int .i64 0, .int .i64 0, .int .i64 0, .int .i64 0, .int .i64 0, .int .i64 0]].map id)]) := by
 refine Tri.en F83 rfl K83 rfl fun w0 => ?_
 refine J.co 2 rfl ?_
 refine O.l (Lo.bx rfl rfl) rfl ?_
 rintro _ _ ⟨g501, rfl, rfl⟩
 refine O.oo 6 rfl ?_
 refine O.q (Qt.lv 1 A29 rfl rfl rfl) rfl ?_
 refine O.oo 6 rfl ?_
 refine O.q (Qt.lv 0 A3 rfl rfl rfl) rfl ?_
 refine O.oo 2 rfl ?_
 refine O.q (Qt.lv 0 A3 rfl rfl rfl) rfl ?_
 refine O.l (Lo.ca C80 (nb294 g473 g228 g235 V230 V233 g240 g243 g246 b224 g225 g247) [1, 2] rfl rfl .nil) rfl ?_
 rintro _ _ ⟨_, ⟨V503, rfl, rfl⟩, rfl⟩
 refine O.oc 2 rfl ?_
 refine J.dm [(0, false), (1, false), (2, false), (3, false), (4, false), (5, false), (6, false), (7, false), (8, false), (9, true), (10, true)] [1, 3] Tryz.mixed (by kernel_rfl) rfl ?_
 refine Mx.r 1 rfl ?_
 refine Mx.q rfl (Qt.lv 1 A3 rfl rfl rfl) rfl ?_
 refine Mx.r 1 rfl ?_
 refine Mx.q rfl (Qt.lv 1 A3 rfl rfl rfl) rfl ?_
 refine Mx.r 3 rfl ?_
 refine Mx.q rfl (Qt.lv 0 A3 rfl rfl rfl) rfl ?_
 refine Mx.p rfl (Pu.build [(0, .int .i64 1), (1, .int .i64 (-1)), (2, .int .i64 0)] [.int .i64 1, .int .i64 (-1), .int .i64 0, .int .i64 0, .int .i64 0, .int .i64 0] #[(0, 1), (1, 1), (2, 1), (3, 1), (4, 1), (5, 1)] U41 Y41 (places41 N41) rfl (by kernel_rfl)) rfl ?_
 refine Mx.l rfl (Lo.al Y41 rfl) rfl ?_
 rintro _ _ ⟨g505, rfl, rfl⟩
 refine MxK.gp [2, 4] [0, 1] rfl rfl ?_
 refine Mx.l0 rfl (Lo.st 0 Z41 rfl rfl rfl rfl rfl rfl rfl) ?_
 rintro _ _ rfl
 refine MxK.al [2, 4] rfl (by kernel_rfl) ?_
 refine Mx.nil ?_
 refine J.dm [(0, false), (1, false), (2, false), (3, false), (5, false), (7, false), (4, true), (6, true), (8, true), (9, true), (10, false), (11, true)] [0] Tryz.mixed (by kernel_rfl) rfl ?_
 refine Mx.r 1 rfl ?_
 refine Mx.q rfl (Qt.lva 0 A41 Z41 rfl rfl rfl) rfl ?_
 refine Mx.r 4 rfl ?_
 refine Mx.l rfl (Lo.ca C18 (nb269 g228 g235 V230 V233 g240 g243 g246 b224 g225 g247 g236 g237 g238 g239) [2, 5] rfl rfl .nil) rfl ?_
 rintro _ _ ⟨_, ⟨rfl, rfl⟩, rfl⟩
 refine MxK.gp [2] [0] rfl rfl ?_
 refine Mx.l rfl (Lo.ca C17 (nb271 g228 g235 V230 V233 g240 g243 g246 b224 g225 g247 g236 g237 g238 g239) [0, 1] rfl rfl .nil) rfl ?_
 rintro _ _ ⟨_, ⟨rfl, rfl⟩, rfl⟩
 refine MxK.gp [2] [0] rfl rfl ?_
 refine Mx.l rfl (Lo.ca C19 (nb274 g228 g235 V230 V233 g240 g243 g246 b224 g225 g247 g236 g237 g238 g239) [0, 1, 6] rfl rfl .nil) rfl ?_
 rintro _ _ ⟨_, ⟨rfl, rfl⟩, rfl⟩
 refine MxK.gp [3] [0] rfl rfl ?_
 refine Mx.l rfl (Lo.ca C181 nb295 [] rfl rfl .nil) rfl ?_
 rintro _ _ ⟨_, ⟨rfl, rfl⟩, rfl⟩
 refine MxK.al [3] rfl (by kernel_rfl) ?_
 refine Mx.p rfl (Pu.build [(0, .int .i64 2), (2, .agg #[.int .i64 1, .int .i64 0, .int .i64 (-1), .int .i64 1, .int .i64 8, .int .i64 1, .int .i64 1])] [.int .i64 2, .int .i64 0, .int .i64 0, .int .i64 0, .int .i64 0, .int .i64 0, .int .i64 0, .int .i64 1, .int .i64 0, .int .i64 (-1), .int .i64 1, .int .i64 8, .int .i64 1, .int .i64 1, .int .i64 0, .int .i64 0, .int .i64 0, .int .i64 0, .int .i64 0, .int .i64 0, .int .i64 0, .int .i64 0, .int .i64 0] #[(0, 1), (1, 6), (7, 7), (14, 9)] U62 Y62 (places62 N62) rfl (by kernel_rfl)) rfl ?_
 refine Mx.l rfl (Lo.ca C180 (nb296 g473 g228 V503) [4] rfl rfl .nil) rfl ?_
 rintro _ _ ⟨_, ⟨V510, rfl, rfl⟩, rfl⟩
 refine MxK.al [5] rfl (by kernel_rfl) ?_
 refine Mx.nil ?_
 exact J.dn [] [0, 2, 3, 4, 6, 1] rfl trivial rfl ⟨V503, V510, rfl, rfl⟩

set_option maxRecDepth 100000 in
theorem nb298 (g473 : Nat) (g228 : Nat) (g235 : Nat) (V230 : Value) (V233 : Value) (g240 : Nat) (g243 : Nat) (g246 : Nat) (b224 : Nat) (g225 : Nat) (g247 : Nat) (g305 : Nat) (b227 : Nat) (b226 : Nat) (g236 : Nat) (g237 : Nat) (g238 : Nat) (g239 : Nat) : Tri Tryz.prog 191 #[.pointer (some ⟨g473, 0, none⟩), .int .i64 1, .int .i64 1] [] [var g473 [.pointer (some ⟨g228, 0, none⟩), Value.slice none 0 0, Value.slice none 0 0] 261, var g228 [.pointer (some ⟨g235, 0, none⟩), .int .i64 2, .int .i64 4, .int .i64 1000, .int .u64 1, V230, .int .i64 0, .int .i64 1, .int .i64 1, .int .i64 10, .int .i64 1, .int .i64 64, .int .i64 20, .int .i64 1, .int .i64 4, .int .i64 10, .int .i64 5, .int .i64 1, .int .i64 3, .int .i64 2, V233, .int .i64 0, .int .i64 0, .int .i64 3, .int .i64 0, .pointer (some ⟨g240, 0, none⟩), .pointer (some ⟨g243, 0, none⟩), .pointer (some ⟨g246, 0, none⟩), .map (some b224), .pointer (some ⟨g225, 0, none⟩), .pointer (some ⟨g247, 0, none⟩)] 90, var g246 (.int .i64 1 :: .pointer (some ⟨g305, 0, none⟩) :: (rp 15 (Value.pointer none) [])) 210, var g305 [.int .i64 1, .int .i64 2, .int .i64 (-1), .int .i64 50, .int .i64 9, .int .i64 0, .int .i64 1] 66, mi b224 (id : Value → Value) [(1, (.agg #[.int .i64 1, .int .i64 2, .int .i64 (-1), .int .i64 50, .int .i64 9, .int .i64 0, .int .i64 1, .int .i64 1, Value.slice none 0 0] : Value))], mi b227 vO ([] : List (Int × (Nat × List (Int × Int)))), var g225 [.map (some b226), .map (some b227)] 195, var g235 [.pointer (some ⟨g236, 0, none⟩), .pointer (some ⟨g237, 0, none⟩), .int .i64 8, .int .i64 1, .int .i64 1, .int .i64 4, .int .i64 10, .int .i64 5, .int .i64 1, .int .i64 3, .int .i64 2, .pointer (some ⟨g238, 0, none⟩), .pointer (some ⟨g239, 0, none⟩), .int .i64 8, .int .i64 1] 172, var g237 [.bool true, .int .i64 1, .int .i64 1, .int .i64 32] 296] (fun v L' => ∃ (V503 : Value) (V510 : Value), v = .tuple #[] ∧ L' = [var g473 [.pointer (some ⟨g228, 0, none⟩), V503, V510] 261, var g228 [.pointer (some ⟨g235, 0, none⟩), .int .i64 2, .int .i64 4, .int .i64 1000, .int .u64 1, V230, .int .i64 0, .int .i64 1, .int .i64 1, .int .i64 10, .int .i64 1, .int .i64 64, .int .i64 20, .int .i64 1, .int .i64 4, .int .i64 10, .int .i64 5, .int .i64 1, .int .i64 3, .int .i64 2, V233, .int .i64 0, .int .i64 0, .int .i64 3, .int .i64 0, .pointer (some ⟨g240, 0, none⟩), .pointer (some ⟨g243, 0, none⟩), .pointer (some ⟨g246, 0, none⟩), .map (some b224), .pointer (some ⟨g225, 0, none⟩), .pointer (some ⟨g247, 0, none⟩)] 90, var g246 (.int .i64 1 :: (rp 16 (Value.pointer none) [])) 210, var g305 [.int .i64 1, .int .i64 2, .int .i64 (-1), .int .i64 50, .int .i64 9, .int .i64 0, .int .i64 1] 66, mi b224 (id : Value → Value) ([] : List (Int × Value)), mi b227 vO ([] : List (Int × (Nat × List (Int × Int)))), var g225 [.map (some b226), .map (some b227)] 195, var g235 [.pointer (some ⟨g236, 0, none⟩), .pointer (some ⟨g237, 0, none⟩), .int .i64 8, .int .i64 1, .int .i64 1, .int .i64 4, .int .i64 10, .int .i64 5, .int .i64 1, .int .i64 3, .int .i64 2, .pointer (some ⟨g238, 0, none⟩), .pointer (some ⟨g239, 0, none⟩), .int .i64 8, .int .i64 1] 172, var g237 [.bool true, .int .i64 1, .int .i64 1, .int .i64 32] 296, row V503 51 7 ([[.int .i64 4, .int .i64 0, .int .i64 0, .int .i64 1, .int .i64 1, .int .i64 2, .int .i64 0]].map id), row V510 62 23 ([[.int .i64 2, .int .i64 0, .int .i64 0, .int .i64 0, .int .i64 0, .int .i64 0, .int .i64 0, .int .i64 1, .int .i64 0, .int .i64 (-1), .int .i64 1, .int .i64 8, .int .i64 1, .int .i64 1, .int .i64 0, .int .i64 0, .int .i64 0, .int .i64 0, .int .i64 0, .int .i64 0, .int .i64 0, .int .i64 0, .int .i64 0]].map id)]) := by
 refine Tri.en F191 rfl K191 rfl fun w0 => ?_
 refine J.co 5 rfl ?_
 refine O.q (Qt.lv 0 A29 rfl rfl rfl) rfl ?_
 refine O.oo 7 rfl ?_
 refine O.q (Qt.lv 1 A85 rfl rfl rfl) rfl ?_
 refine O.oo 1 rfl ?_
 refine O.l (Lo.ca C272 (nb292 g246 g305) [2, 3] rfl rfl .nil) rfl ?_
 rintro _ _ ⟨_, ⟨rfl, rfl⟩, rfl⟩
 refine O.oo 3 rfl ?_
 refine O.l (Lo.al Y66 rfl) rfl ?_
 rintro _ _ ⟨g499, rfl, rfl⟩
 refine O.l0 (Lo.st 0 Z66 rfl rfl rfl rfl rfl rfl rfl) ?_
 rintro _ _ rfl
 refine O.oo 7 rfl ?_
 refine O.q (Qt.lv 4 A86 rfl rfl rfl) rfl ?_
 refine O.oo 1 rfl ?_
 refine O.l0 (Lo.mapDel 5 rfl N86 N3 rfl rfl rfl) ?_
 rintro _ _ rfl
 refine O.oo 6 rfl ?_
 refine O.q (Qt.lv 4 A87 rfl rfl rfl) rfl ?_
 refine O.oo 1 rfl ?_
 refine O.l (Lo.ca C273 (nb293 g225 b227 b226) [6, 7] rfl rfl .nil) rfl ?_
 rintro V500 _ ⟨_, ⟨_, rfl, rfl⟩, rfl⟩
 refine O.oo 3 rfl ?_
 refine O.q (Qt.lva 3 A66 Z66 rfl rfl rfl) rfl ?_
 refine O.oo 1 rfl ?_
 refine O.l (Lo.ca C83 (nb297 g473 g228 g235 V230 V233 g240 g243 g246 b224 g225 g247 g236 g237 g238 g239) [6, 7, 9, 10] rfl rfl .nil) rfl ?_
 rintro _ _ ⟨_, ⟨V503, V510, rfl, rfl⟩, rfl⟩
 refine O.oc 1 rfl ?_
 exact J.dn [] [0, 1, 10, 11, 12, 6, 7, 2, 3, 4, 5] rfl trivial rfl ⟨V503, V510, rfl, rfl⟩

set_option maxRecDepth 100000 in
theorem nb299 (g228 : Nat) (g473 : Nat) (g235 : Nat) (V230 : Value) (V233 : Value) (g240 : Nat) (g243 : Nat) (g246 : Nat) (b224 : Nat) (g225 : Nat) (g247 : Nat) (g236 : Nat) (g237 : Nat) (g238 : Nat) (g239 : Nat) (g305 : Nat) (b227 : Nat) (b226 : Nat) : Tri Tryz.prog 88 #[.pointer (some ⟨g228, 0, none⟩), .pointer (some ⟨g473, 0, none⟩), .agg #[.int .i64 1, .int .i64 2, .int .i64 (-1), .int .i64 50, .int .i64 9, .int .i64 0, .int .i64 1, .int .i64 1, Value.slice none 0 0]] [] [var g228 [.pointer (some ⟨g235, 0, none⟩), .int .i64 2, .int .i64 4, .int .i64 1000, .int .u64 1, V230, .int .i64 0, .int .i64 1, .int .i64 1, .int .i64 10, .int .i64 1, .int .i64 64, .int .i64 20, .int .i64 1, .int .i64 4, .int .i64 10, .int .i64 5, .int .i64 1, .int .i64 3, .int .i64 2, V233, .int .i64 0, .int .i64 0, .int .i64 3, .int .i64 0, .pointer (some ⟨g240, 0, none⟩), .pointer (some ⟨g243, 0, none⟩), .pointer (some ⟨g246, 0, none⟩), .map (some b224), .pointer (some ⟨g225, 0, none⟩), .pointer (some ⟨g247, 0, none⟩)] 90, var g235 [.pointer (some ⟨g236, 0, none⟩), .pointer (some ⟨g237, 0, none⟩), .int .i64 8, .int .i64 1, .int .i64 1, .int .i64 4, .int .i64 10, .int .i64 5, .int .i64 1, .int .i64 3, .int .i64 2, .pointer (some ⟨g238, 0, none⟩), .pointer (some ⟨g239, 0, none⟩), .int .i64 8, .int .i64 1] 172, var g237 [.bool true, .int .i64 1, .int .i64 1, .int .i64 32] 296, row V233 136 4 (([] : List (List Value)).map id), var g473 [.pointer (some ⟨g228, 0, none⟩), Value.slice none 0 0, Value.slice none 0 0] 261, var g246 (.int .i64 1 :: .pointer (some ⟨g305, 0, none⟩) :: (rp 15 (Value.pointer none) [])) 210, var g305 [.int .i64 1, .int .i64 2, .int .i64 (-1), .int .i64 50, .int .i64 9, .int .i64 0, .int .i64 1] 66, mi b224 (id : Value → Value) [(1, (.agg #[.int .i64 1, .int .i64 2, .int .i64 (-1), .int .i64 50, .int .i64 9, .int .i64 0, .int .i64 1, .int .i64 1, Value.slice none 0 0] : Value))], mi b227 vO ([] : List (Int × (Nat × List (Int × Int)))), var g225 [.map (some b226), .map (some b227)] 195] (fun v L' => ∃ (V518 : Value) (V519 : Value), v = .tuple #[] ∧ L' = [var g228 [.pointer (some ⟨g235, 0, none⟩), .int .i64 2, .int .i64 4, .int .i64 1000, .int .u64 1, V230, .int .i64 0, .int .i64 1, .int .i64 1, .int .i64 10, .int .i64 1, .int .i64 64, .int .i64 20, .int .i64 1, .int .i64 4, .int .i64 10, .int .i64 5, .int .i64 1, .int .i64 3, .int .i64 2, V233, .int .i64 0, .int .i64 0, .int .i64 3, .int .i64 0, .pointer (some ⟨g240, 0, none⟩), .pointer (some ⟨g243, 0, none⟩), .pointer (some ⟨g246, 0, none⟩), .map (some b224), .pointer (some ⟨g225, 0, none⟩), .pointer (some ⟨g247, 0, none⟩)] 90, var g235 [.pointer (some ⟨g236, 0, none⟩), .pointer (some ⟨g237, 0, none⟩), .int .i64 8, .int .i64 1, .int .i64 1, .int .i64 4, .int .i64 10, .int .i64 5, .int .i64 1, .int .i64 3, .int .i64 2, .pointer (some ⟨g238, 0, none⟩), .pointer (some ⟨g239, 0, none⟩), .int .i64 8, .int .i64 1] 172, var g237 [.bool true, .int .i64 1, .int .i64 1, .int .i64 32] 296, row V233 136 4 (([] : List (List Value)).map id), var g473 [.pointer (some ⟨g228, 0, none⟩), V518, V519] 261, var g246 (.int .i64 1 :: (rp 16 (Value.pointer none) [])) 210, var g305 [.int .i64 1, .int .i64 2, .int .i64 (-1), .int .i64 50, .int .i64 9, .int .i64 0, .int .i64 1] 66, mi b224 (id : Value → Value) ([] : List (Int × Value)), mi b227 vO ([] : List (Int × (Nat × List (Int × Int)))), var g225 [.map (some b226), .map (some b227)] 195, row V518 51 7 ([[.int .i64 4, .int .i64 0, .int .i64 0, .int .i64 1, .int .i64 1, .int .i64 2, .int .i64 0]].map id), row V519 62 23 ([[.int .i64 2, .int .i64 0, .int .i64 0, .int .i64 0, .int .i64 0, .int .i64 0, .int .i64 0, .int .i64 1, .int .i64 0, .int .i64 (-1), .int .i64 1, .int .i64 8, .int .i64 1, .int .i64 1, .int .i64 0, .int .i64 0, .int .i64 0, .int .i64 0, .int .i64 0, .int .i64 0, .int .i64 0, .int .i64 0, .int .i64 0]].map id)]) := by
 refine Tri.en F88 rfl K88 rfl fun w0 => ?_
 refine J.co 2 rfl ?_
 refine O.l (Lo.bx rfl rfl) rfl ?_
 rintro _ _ ⟨g475, rfl, rfl⟩
 refine O.oo 4 rfl ?_
 refine O.q (Qt.lva 0 A66 Z66 rfl rfl rfl) rfl ?_
 refine O.l (Lo.al Y66 rfl) rfl ?_
 rintro _ _ ⟨g476, rfl, rfl⟩
 refine O.l0 (Lo.st 0 Z66 rfl rfl rfl rfl rfl rfl rfl) ?_
 rintro _ _ rfl
 refine O.oc 2 rfl ?_
 refine J.drawA Tryz.mixed ?_
 refine A.edge 5 20 rfl ?_ ?_
 ·
  refine A.mx [(0, false), (1, false), (2, false), (3, false), (4, false), (6, false), (7, false), (8, false), (9, false), (10, false), (11, false), (12, false), (13, false), (15, false), (16, false), (17, false), (18, false), (20, true), (5, true), (14, false), (19, true), (21, true)] [0, 2] (by kernel_rfl) rfl ?_
  refine Mx.r 3 rfl ?_
  refine Mx.q rfl (Qt.lva 1 A56 Z56 rfl rfl rfl) rfl ?_
  refine Mx.r 2 rfl ?_
  refine Mx.q rfl (Qt.lv 0 A3 rfl rfl rfl) rfl ?_
  refine Mx.r 3 rfl ?_
  refine Mx.q rfl (Qt.lv 1 A3 rfl rfl rfl) rfl ?_
  refine Mx.r 1 rfl ?_
  refine Mx.q rfl (Qt.lv 0 A3 rfl rfl rfl) rfl ?_
  refine Mx.r 3 rfl ?_
  refine Mx.q rfl (Qt.lv 1 A88 rfl rfl rfl) rfl ?_
  refine Mx.l rfl (Lo.al Y236 rfl) rfl ?_
  rintro _ _ ⟨g477, rfl, rfl⟩
  refine MxK.gp [1, 3] [0, 1] rfl rfl ?_
  refine Mx.l rfl (Lo.ca C19 (nb274 g228 g235 V230 V233 g240 g243 g246 b224 g225 g247 g236 g237 g238 g239) [3, 4, 5] rfl rfl .nil) rfl ?_
  rintro _ _ ⟨_, ⟨rfl, rfl⟩, rfl⟩
  refine MxK.gp [0, 4] [1, 0] rfl rfl ?_
  refine Mx.p rfl (Pu.build [(0, .int .i64 1), (1, .int .i64 2), (2, .int .i64 0), (3, .int .i64 50)] [.int .i64 1, .int .i64 2, .int .i64 0, .int .i64 50] #[(0, 1), (1, 1), (2, 1), (3, 1)] U273 Y273 (places273 N273) rfl (by kernel_rfl)) rfl ?_
  refine Mx.l rfl (Lo.ca C190 (nb284 V233 g247) [6] rfl rfl .nil) rfl ?_
  rintro _ _ ⟨_, ⟨rfl, rfl⟩, rfl⟩
  refine MxK.gp [1, 5] [0, 1] rfl rfl ?_
  refine Mx.l0 rfl (Lo.st 4 Z236 rfl rfl rfl rfl rfl rfl rfl) ?_
  rintro _ _ rfl
  refine MxK.al [1, 5] rfl (by kernel_rfl) ?_
  refine Mx.nil ?_
  refine J.co 4 rfl ?_
  refine O.q (Qt.lv 4 A3 rfl rfl rfl) rfl ?_
  refine O.oo 12 rfl ?_
  refine O.q (Qt.lv 4 A234 rfl rfl rfl) rfl ?_
  refine O.p (Pu.len (A := none) (n := 0) (cap := 0) U234 rfl) rfl ?_
  refine O.oc 3 rfl ?_
  refine J.un ?_
  refine J.co 9 rfl ?_
  refine O.q (Qt.lva 6 A68 Z68 rfl rfl rfl) rfl ?_
  refine O.oo 1 rfl ?_
  refine O.l (Lo.ca C193 nb290 [] rfl rfl .nil) rfl ?_
  rintro _ _ ⟨_, ⟨rfl, rfl⟩, rfl⟩
  refine O.oo 4 rfl ?_
  refine O.l (Lo.al Y68 rfl) rfl ?_
  rintro _ _ ⟨g496, rfl, rfl⟩
  refine O.l0 (Lo.st 0 Z68 rfl rfl rfl rfl rfl rfl rfl) ?_
  rintro _ _ rfl
  refine O.oo 14 rfl ?_
  refine O.q (Qt.lv 6 A3 rfl rfl rfl) rfl ?_
  refine O.oo 1 rfl ?_
  refine O.l (Lo.ca C191 (nb298 g473 g228 g235 V230 V233 g240 g243 g246 b224 g225 g247 g305 b227 b226 g236 g237 g238 g239) [8, 2, 9, 10, 11, 12, 13, 3, 4] rfl rfl .nil) rfl ?_
  rintro _ _ ⟨_, ⟨V503, V510, rfl, rfl⟩, rfl⟩
  refine O.oc 1 rfl ?_
  exact J.rn [] [1, 7, 8, 12, 0, 2, 3, 4, 5, 6, 9, 10] rfl trivial rfl ⟨V503, V510, rfl, rfl⟩
 ·
  refine A.edge 19 20 rfl ?_ ?_
  ·
   refine A.mx [(0, false), (1, false), (2, false), (3, false), (4, false), (6, false), (7, false), (8, false), (9, false), (10, false), (11, false), (12, false), (13, false), (15, false), (16, false), (17, false), (18, false), (5, true), (14, false), (20, true), (19, true), (21, true)] [0, 2] (by kernel_rfl) rfl ?_
   refine Mx.r 3 rfl ?_
   refine Mx.q rfl (Qt.lva 1 A56 Z56 rfl rfl rfl) rfl ?_
   refine Mx.r 2 rfl ?_
   refine Mx.q rfl (Qt.lv 0 A3 rfl rfl rfl) rfl ?_
   refine Mx.r 3 rfl ?_
   refine Mx.q rfl (Qt.lv 1 A3 rfl rfl rfl) rfl ?_
   refine Mx.r 1 rfl ?_
   refine Mx.q rfl (Qt.lv 0 A3 rfl rfl rfl) rfl ?_
   refine Mx.r 3 rfl ?_
   refine Mx.q rfl (Qt.lv 1 A88 rfl rfl rfl) rfl ?_
   refine Mx.l rfl (Lo.ca C19 (nb274 g228 g235 V230 V233 g240 g243 g246 b224 g225 g247 g236 g237 g238 g239) [2, 3, 4] rfl rfl .nil) rfl ?_
   rintro _ _ ⟨_, ⟨rfl, rfl⟩, rfl⟩
   refine MxK.gp [0, 3] [1, 0] rfl rfl ?_
   refine Mx.p rfl (Pu.build [(0, .int .i64 1), (1, .int .i64 2), (2, .int .i64 0), (3, .int .i64 50)] [.int .i64 1, .int .i64 2, .int .i64 0, .int .i64 50] #[(0, 1), (1, 1), (2, 1), (3, 1)] U273 Y273 (places273 N273) rfl (by kernel_rfl)) rfl ?_
   refine Mx.l rfl (Lo.al Y236 rfl) rfl ?_
   rintro _ _ ⟨g512, rfl, rfl⟩
   refine MxK.gp [1, 4] [0, 1] rfl rfl ?_
   refine Mx.l rfl (Lo.ca C190 (nb284 V233 g247) [6] rfl rfl .nil) rfl ?_
   rintro _ _ ⟨_, ⟨rfl, rfl⟩, rfl⟩
   refine MxK.gp [2, 5] [0, 1] rfl rfl ?_
   refine Mx.l0 rfl (Lo.st 1 Z236 rfl rfl rfl rfl rfl rfl rfl) ?_
   rintro _ _ rfl
   refine MxK.al [2, 5] rfl (by kernel_rfl) ?_
   refine Mx.nil ?_
   refine J.co 4 rfl ?_
   refine O.q (Qt.lv 1 A3 rfl rfl rfl) rfl ?_
   refine O.oo 12 rfl ?_
   refine O.q (Qt.lv 1 A234 rfl rfl rfl) rfl ?_
   refine O.p (Pu.len (A := none) (n := 0) (cap := 0) U234 rfl) rfl ?_
   refine O.oc 3 rfl ?_
   refine J.un ?_
   refine J.co 9 rfl ?_
   refine O.q (Qt.lva 6 A68 Z68 rfl rfl rfl) rfl ?_
   refine O.oo 1 rfl ?_
   refine O.l (Lo.ca C193 nb290 [] rfl rfl .nil) rfl ?_
   rintro _ _ ⟨_, ⟨rfl, rfl⟩, rfl⟩
   refine O.oo 4 rfl ?_
   refine O.l (Lo.al Y68 rfl) rfl ?_
   rintro _ _ ⟨g513, rfl, rfl⟩
   refine O.l0 (Lo.st 0 Z68 rfl rfl rfl rfl rfl rfl rfl) ?_
   rintro _ _ rfl
   refine O.oo 14 rfl ?_
   refine O.q (Qt.lv 6 A3 rfl rfl rfl) rfl ?_
   refine O.oo 1 rfl ?_
   refine O.l (Lo.ca C191 (nb298 g473 g228 g235 V230 V233 g240 g243 g246 b224 g225 g247 g305 b227 b226 g236 g237 g238 g239) [8, 3, 9, 10, 11, 12, 13, 4, 5] rfl rfl .nil) rfl ?_
   rintro _ _ ⟨_, ⟨V514, V515, rfl, rfl⟩, rfl⟩
   refine O.oc 1 rfl ?_
   exact J.rn [] [1, 7, 8, 12, 0, 2, 3, 4, 5, 6, 9, 10] rfl trivial rfl ⟨V514, V515, rfl, rfl⟩
  ·
   refine A.mx [(0, false), (1, false), (2, false), (3, false), (4, false), (6, false), (7, false), (8, false), (9, false), (10, false), (11, false), (12, false), (13, false), (15, false), (16, false), (17, false), (18, false), (5, true), (14, false), (19, true), (20, true), (21, true)] [0, 2] (by kernel_rfl) rfl ?_
   refine Mx.r 3 rfl ?_
   refine Mx.q rfl (Qt.lva 1 A56 Z56 rfl rfl rfl) rfl ?_
   refine Mx.r 2 rfl ?_
   refine Mx.q rfl (Qt.lv 0 A3 rfl rfl rfl) rfl ?_
   refine Mx.r 3 rfl ?_
   refine Mx.q rfl (Qt.lv 1 A3 rfl rfl rfl) rfl ?_
   refine Mx.r 1 rfl ?_
   refine Mx.q rfl (Qt.lv 0 A3 rfl rfl rfl) rfl ?_
   refine Mx.r 3 rfl ?_
   refine Mx.q rfl (Qt.lv 1 A88 rfl rfl rfl) rfl ?_
   refine Mx.l rfl (Lo.ca C19 (nb274 g228 g235 V230 V233 g240 g243 g246 b224 g225 g247 g236 g237 g238 g239) [2, 3, 4] rfl rfl .nil) rfl ?_
   rintro _ _ ⟨_, ⟨rfl, rfl⟩, rfl⟩
   refine MxK.gp [0, 3] [1, 0] rfl rfl ?_
   refine Mx.p rfl (Pu.build [(0, .int .i64 1), (1, .int .i64 2), (2, .int .i64 0), (3, .int .i64 50)] [.int .i64 1, .int .i64 2, .int .i64 0, .int .i64 50] #[(0, 1), (1, 1), (2, 1), (3, 1)] U273 Y273 (places273 N273) rfl (by kernel_rfl)) rfl ?_
   refine Mx.l rfl (Lo.ca C190 (nb284 V233 g247) [5] rfl rfl .nil) rfl ?_
   rintro _ _ ⟨_, ⟨rfl, rfl⟩, rfl⟩
   refine MxK.gp [1, 4] [0, 1] rfl rfl ?_
   refine Mx.l rfl (Lo.al Y236 rfl) rfl ?_
   rintro _ _ ⟨g516, rfl, rfl⟩
   refine MxK.gp [2, 5] [0, 1] rfl rfl ?_
   refine Mx.l0 rfl (Lo.st 0 Z236 rfl rfl rfl rfl rfl rfl rfl) ?_
   rintro _ _ rfl
   refine MxK.al [2, 5] rfl (by kernel_rfl) ?_
   refine Mx.nil ?_
   refine J.co 4 rfl ?_
   refine O.q (Qt.lv 0 A3 rfl rfl rfl) rfl ?_
   refine O.oo 12 rfl ?_
   refine O.q (Qt.lv 0 A234 rfl rfl rfl) rfl ?_
   refine O.p (Pu.len (A := none) (n := 0) (cap := 0) U234 rfl) rfl ?_
   refine O.oc 3 rfl ?_
   refine J.un ?_
   refine J.co 9 rfl ?_
   refine O.q (Qt.lva 6 A68 Z68 rfl rfl rfl) rfl ?_
   refine O.oo 1 rfl ?_
   refine O.l (Lo.ca C193 nb290 [] rfl rfl .nil) rfl ?_
   rintro _ _ ⟨_, ⟨rfl, rfl⟩, rfl⟩
   refine O.oo 4 rfl ?_
   refine O.l (Lo.al Y68 rfl) rfl ?_
   rintro _ _ ⟨g517, rfl, rfl⟩
   refine O.l0 (Lo.st 0 Z68 rfl rfl rfl rfl rfl rfl rfl) ?_
   rintro _ _ rfl
   refine O.oo 14 rfl ?_
   refine O.q (Qt.lv 6 A3 rfl rfl rfl) rfl ?_
   refine O.oo 1 rfl ?_
   refine O.l (Lo.ca C191 (nb298 g473 g228 g235 V230 V233 g240 g243 g246 b224 g225 g247 g305 b227 b226 g236 g237 g238 g239) [8, 3, 9, 10, 11, 12, 13, 4, 5] rfl rfl .nil) rfl ?_
   rintro _ _ ⟨_, ⟨V518, V519, rfl, rfl⟩, rfl⟩
   refine O.oc 1 rfl ?_
   exact J.rn [] [1, 7, 8, 13, 0, 2, 3, 4, 5, 6, 9, 10] rfl trivial rfl ⟨V518, V519, rfl, rfl⟩

set_option maxRecDepth 100000 in
theorem nb300 (g244 : Nat) (b245 : Nat) (V456 : Value) : Tri Tryz.prog 219 #[.pointer (some ⟨g244, 0, none⟩)] [] [var g244 [.map (some b245), .int .i64 1, V456] 294, row V456 66 7 ([[.int .i64 3, .int .i64 1, .int .i64 (-1), .int .i64 50, .int .i64 9, .int .i64 0, .int .i64 3]].map id)] (fun v L' => v = .int .i64 1 ∧ L' = [var g244 [.map (some b245), .int .i64 1, V456] 294, row V456 66 7 ([[.int .i64 3, .int .i64 1, .int .i64 (-1), .int .i64 50, .int .i64 9, .int .i64 0, .int .i64 3]].map id)]) := by
 refine Tri.en F219 rfl K219 rfl fun w0 => ?_
 refine J.co 8 rfl ?_
 refine O.p (Pu.someEq N163 rfl) rfl ?_
 refine O.oo 8 rfl ?_
 refine O.q (Qt.lv 0 A52 rfl rfl rfl) rfl ?_
 refine O.q (Qt.lenM U52 rfl (Src.row 1 rfl)) rfl ?_
 refine O.oc 2 rfl ?_
 exact J.r1 [0, 1] rfl rfl rfl ⟨rfl, rfl⟩

set_option maxRecDepth 100000 in
theorem nb301 (g244 : Nat) (b245 : Nat) (V456 : Value) : Tri Tryz.prog 316 #[.pointer (some ⟨g244, 0, none⟩), .int .i64 0, .agg #[.int .i64 3, .int .i64 1, .int .i64 (-1), .int .i64 50, .int .i64 9, .int .i64 0, .int .i64 3]] [] [var g244 [.map (some b245), .int .i64 1, V456] 294, row V456 66 7 ([[.int .i64 3, .int .i64 1, .int .i64 (-1), .int .i64 50, .int .i64 9, .int .i64 0, .int .i64 3]].map id), mi b245 (Value.int .i64) [(3, 0)]] (fun v L' => v = .tuple #[] ∧ L' = [var g244 [.map (some b245), .int .i64 1, V456] 294, row V456 66 7 ([[.int .i64 3, .int .i64 1, .int .i64 (-1), .int .i64 50, .int .i64 9, .int .i64 0, .int .i64 3]].map id), mi b245 (Value.int .i64) [(3, 0)]]) := by
 refine Tri.en F316 rfl K316 rfl fun w0 => ?_
 refine J.co 2 rfl ?_
 refine O.l (Lo.bx rfl rfl) rfl ?_
 rintro _ _ ⟨g526, rfl, rfl⟩
 refine O.oc 1 rfl ?_
 refine J.dm [(0, false), (1, false), (2, false), (3, false), (4, false), (5, false), (6, false), (7, false), (8, false), (9, false), (10, false), (11, false), (12, false), (13, false), (14, false), (15, true), (16, true), (17, false), (18, true)] [0, 1, 2] Tryz.mixed (by kernel_rfl) rfl ?_
 refine Mx.r 3 rfl ?_
 refine Mx.q rfl (Qt.lv 1 A52 rfl rfl rfl) rfl ?_
 refine Mx.r 5 rfl ?_
 refine Mx.q rfl (Qt.lv 1 A178 rfl rfl rfl) rfl ?_
 refine Mx.r 1 rfl ?_
 refine Mx.q rfl (Qt.lv 0 A3 rfl rfl rfl) rfl ?_
 refine Mx.q rfl (Qt.lva 0 A66 Z66 rfl rfl rfl) rfl ?_
 refine Mx.r 1 rfl ?_
 refine Mx.q rfl (Qt.ix U52 Z66 rfl (Src.row 2 rfl) (j := 0) (a := [.int .i64 3, .int .i64 1, .int .i64 (-1), .int .i64 50, .int .i64 9, .int .i64 0, .int .i64 3]) rfl rfl rfl) rfl ?_
 refine Mx.l0 rfl (Lo.storeM 2 (j := 0) (off := 0) (vs := [.int .i64 3, .int .i64 1, .int .i64 (-1), .int .i64 50, .int .i64 9, .int .i64 0, .int .i64 3]) (e := [.int .i64 3, .int .i64 1, .int .i64 (-1), .int .i64 50, .int .i64 9, .int .i64 0, .int .i64 3]) [.int .i64 3, .int .i64 1, .int .i64 (-1), .int .i64 50, .int .i64 9, .int .i64 0, .int .i64 3] rfl rfl rfl rfl (by omega) rfl rfl Z66 rfl rfl rfl rfl rfl) ?_
 rintro _ _ rfl
 refine MxK.gp [0, 1, 2] [0, 1, 2] rfl rfl ?_
 refine Mx.l rfl (Lo.mapEnt 3 N178 N3 Y3 rfl rfl rfl) rfl ?_
 rintro _ _ ⟨V527, x528, rfl, rfl⟩
 refine MxK.gp [0, 1, 2] [0, 1, 2] rfl rfl ?_
 refine Mx.r 1 rfl ?_
 refine Mx.l0 rfl (Lo.entSt (u := 0) 3 rfl rfl rfl rfl) ?_
 rintro _ _ rfl
 refine MxK.al [0, 1, 2] rfl (by kernel_rfl) ?_
 refine Mx.nil ?_
 exact J.dn [] [1, 2, 3] rfl trivial rfl ⟨rfl, rfl⟩

set_option maxRecDepth 100000 in
theorem nb302 (g244 : Nat) (b245 : Nat) (V456 : Value) : Tri Tryz.prog 352 #[.pointer (some ⟨g244, 0, none⟩), .int .i64 0, .int .i64 0] [] [var g244 [.map (some b245), .int .i64 1, V456] 294, row V456 66 7 ([[.int .i64 3, .int .i64 1, .int .i64 (-1), .int .i64 50, .int .i64 9, .int .i64 0, .int .i64 3]].map id), mi b245 (Value.int .i64) [(3, 0)]] (fun v L' => v = .tuple #[] ∧ L' = [var g244 [.map (some b245), .int .i64 1, V456] 294, row V456 66 7 ([[.int .i64 3, .int .i64 1, .int .i64 (-1), .int .i64 50, .int .i64 9, .int .i64 0, .int .i64 3]].map id), mi b245 (Value.int .i64) [(3, 0)]]) := by
 refine Tri.en F352 rfl K352 rfl fun w0 => ?_
 refine J.cc 1 rfl ?_
 refine J.drawA Tryz.mixed ?_
 refine A.edge 14 15 rfl ?_ ?_
 ·
  refine A.mx [(0, false), (1, false), (2, false), (3, false), (4, false), (5, false), (6, false), (7, false), (8, false), (9, false), (10, false), (11, false), (12, false), (13, false), (15, true), (14, true), (16, true), (17, true)] [0, 1] (by kernel_rfl) rfl ?_
  refine Mx.r 3 rfl ?_
  refine Mx.q rfl (Qt.lv 0 A52 rfl rfl rfl) rfl ?_
  refine Mx.r 1 rfl ?_
  refine Mx.q rfl (Qt.ix U52 Z66 rfl (Src.row 1 rfl) (j := 0) (a := [.int .i64 3, .int .i64 1, .int .i64 (-1), .int .i64 50, .int .i64 9, .int .i64 0, .int .i64 3]) rfl rfl rfl) rfl ?_
  refine Mx.q rfl (Qt.lea A66 Z66 (Src.row 1 rfl) (j := 0) (a := [.int .i64 3, .int .i64 1, .int .i64 (-1), .int .i64 50, .int .i64 9, .int .i64 0, .int .i64 3]) rfl 0 rfl (by omega) rfl) rfl ?_
  refine Mx.r 3 rfl ?_
  refine Mx.q rfl (Qt.lv 0 A52 rfl rfl rfl) rfl ?_
  refine Mx.r 1 rfl ?_
  refine Mx.q rfl (Qt.ix U52 Z66 rfl (Src.row 1 rfl) (j := 0) (a := [.int .i64 3, .int .i64 1, .int .i64 (-1), .int .i64 50, .int .i64 9, .int .i64 0, .int .i64 3]) rfl rfl rfl) rfl ?_
  refine Mx.q rfl (Qt.lea A66 Z66 (Src.row 1 rfl) (j := 0) (a := [.int .i64 3, .int .i64 1, .int .i64 (-1), .int .i64 50, .int .i64 9, .int .i64 0, .int .i64 3]) rfl 0 rfl (by omega) rfl) rfl ?_
  refine Mx.l rfl (Lo.al Y66 rfl) rfl ?_
  rintro _ _ ⟨g524, rfl, rfl⟩
  refine MxK.gp [1, 2] [0, 1] rfl rfl ?_
  refine Mx.l rfl (Lo.al Y66 rfl) rfl ?_
  rintro _ _ ⟨g525, rfl, rfl⟩
  refine MxK.gp [2, 3] [0, 1] rfl rfl ?_
  refine Mx.l0 rfl (Lo.st 0 Z66 rfl rfl rfl rfl rfl rfl rfl) ?_
  rintro _ _ rfl
  refine MxK.gp [2, 3] [0, 1] rfl rfl ?_
  refine Mx.l0 rfl (Lo.st 1 Z66 rfl rfl rfl rfl rfl rfl rfl) ?_
  rintro _ _ rfl
  refine MxK.al [2, 3] rfl (by kernel_rfl) ?_
  refine Mx.nil ?_
  refine J.co 4 rfl ?_
  refine O.q (Qt.lva 1 A66 Z66 rfl rfl rfl) rfl ?_
  refine O.l (Lo.ca C316 (nb301 g244 b245 V456) [2, 3, 4] rfl rfl .nil) rfl ?_
  rintro _ _ ⟨_, ⟨rfl, rfl⟩, rfl⟩
  refine O.oo 4 rfl ?_
  refine O.q (Qt.lva 3 A66 Z66 rfl rfl rfl) rfl ?_
  refine O.l (Lo.ca C316 (nb301 g244 b245 V456) [0, 1, 2] rfl rfl .nil) rfl ?_
  rintro _ _ ⟨_, ⟨rfl, rfl⟩, rfl⟩
  refine O.oc 1 rfl ?_
  exact J.dn [] [0, 1, 2] rfl trivial rfl ⟨rfl, rfl⟩
 ·
  refine A.mx [(0, false), (1, false), (2, false), (3, false), (4, false), (5, false), (6, false), (7, false), (8, false), (9, false), (10, false), (11, false), (12, false), (13, false), (14, true), (15, true), (16, true), (17, true)] [0, 1] (by kernel_rfl) rfl ?_
  refine Mx.r 3 rfl ?_
  refine Mx.q rfl (Qt.lv 0 A52 rfl rfl rfl) rfl ?_
  refine Mx.r 1 rfl ?_
  refine Mx.q rfl (Qt.ix U52 Z66 rfl (Src.row 1 rfl) (j := 0) (a := [.int .i64 3, .int .i64 1, .int .i64 (-1), .int .i64 50, .int .i64 9, .int .i64 0, .int .i64 3]) rfl rfl rfl) rfl ?_
  refine Mx.q rfl (Qt.lea A66 Z66 (Src.row 1 rfl) (j := 0) (a := [.int .i64 3, .int .i64 1, .int .i64 (-1), .int .i64 50, .int .i64 9, .int .i64 0, .int .i64 3]) rfl 0 rfl (by omega) rfl) rfl ?_
  refine Mx.r 3 rfl ?_
  refine Mx.q rfl (Qt.lv 0 A52 rfl rfl rfl) rfl ?_
  refine Mx.r 1 rfl ?_
  refine Mx.q rfl (Qt.ix U52 Z66 rfl (Src.row 1 rfl) (j := 0) (a := [.int .i64 3, .int .i64 1, .int .i64 (-1), .int .i64 50, .int .i64 9, .int .i64 0, .int .i64 3]) rfl rfl rfl) rfl ?_
  refine Mx.q rfl (Qt.lea A66 Z66 (Src.row 1 rfl) (j := 0) (a := [.int .i64 3, .int .i64 1, .int .i64 (-1), .int .i64 50, .int .i64 9, .int .i64 0, .int .i64 3]) rfl 0 rfl (by omega) rfl) rfl ?_
  refine Mx.l rfl (Lo.al Y66 rfl) rfl ?_
  rintro _ _ ⟨g529, rfl, rfl⟩
  refine MxK.gp [1, 2] [0, 1] rfl rfl ?_
  refine Mx.l rfl (Lo.al Y66 rfl) rfl ?_
  rintro _ _ ⟨g530, rfl, rfl⟩
  refine MxK.gp [2, 3] [0, 1] rfl rfl ?_
  refine Mx.l0 rfl (Lo.st 1 Z66 rfl rfl rfl rfl rfl rfl rfl) ?_
  rintro _ _ rfl
  refine MxK.gp [2, 3] [0, 1] rfl rfl ?_
  refine Mx.l0 rfl (Lo.st 0 Z66 rfl rfl rfl rfl rfl rfl rfl) ?_
  rintro _ _ rfl
  refine MxK.al [2, 3] rfl (by kernel_rfl) ?_
  refine Mx.nil ?_
  refine J.co 4 rfl ?_
  refine O.q (Qt.lva 0 A66 Z66 rfl rfl rfl) rfl ?_
  refine O.l (Lo.ca C316 (nb301 g244 b245 V456) [2, 3, 4] rfl rfl .nil) rfl ?_
  rintro _ _ ⟨_, ⟨rfl, rfl⟩, rfl⟩
  refine O.oo 4 rfl ?_
  refine O.q (Qt.lva 4 A66 Z66 rfl rfl rfl) rfl ?_
  refine O.l (Lo.ca C316 (nb301 g244 b245 V456) [0, 1, 2] rfl rfl .nil) rfl ?_
  rintro _ _ ⟨_, ⟨rfl, rfl⟩, rfl⟩
  refine O.oc 1 rfl ?_
  exact J.dn [] [0, 1, 2] rfl trivial rfl ⟨rfl, rfl⟩

set_option maxRecDepth 100000 in
theorem nb303 (g244 : Nat) (b245 : Nat) (V456 : Value) : Tri Tryz.prog 353 #[.pointer (some ⟨g244, 0, none⟩), .int .i64 3] [] [var g244 [.map (some b245), .int .i64 1, vcut V456 7 0 (0 : Int).toNat] 294, mi b245 (Value.int .i64) [(3, 0)]] (fun v L' => v = .tuple #[] ∧ L' = [var g244 [.map (some b245), .int .i64 1, vcut V456 7 0 (0 : Int).toNat] 294, mi b245 (Value.int .i64) ([] : List (Int × Int))]) := by
 refine Tri.en F353 rfl K353 rfl fun w0 => ?_
 refine J.co 4 rfl ?_
 refine O.q (Qt.lv 0 A178 rfl rfl rfl) rfl ?_
 refine O.oo 1 rfl ?_
 refine O.l0 (Lo.mapDel 1 rfl N178 N3 rfl rfl rfl) ?_
 rintro _ _ rfl
 refine O.oc 1 rfl ?_
 exact J.dn [] [0, 1] rfl trivial rfl ⟨rfl, rfl⟩

set_option maxRecDepth 100000 in
theorem nb304 (g244 : Nat) (b245 : Nat) (V456 : Value) : Tri Tryz.prog 321 #[.pointer (some ⟨g244, 0, none⟩), .int .i64 0] [] [var g244 [.map (some b245), .int .i64 1, V456] 294, row V456 66 7 ([[.int .i64 3, .int .i64 1, .int .i64 (-1), .int .i64 50, .int .i64 9, .int .i64 0, .int .i64 3]].map id), mi b245 (Value.int .i64) [(3, 0)]] (fun v L' => v = .tuple #[.agg #[.int .i64 3, .int .i64 1, .int .i64 (-1), .int .i64 50, .int .i64 9, .int .i64 0, .int .i64 3], .bool true] ∧ L' = [var g244 [.map (some b245), .int .i64 1, vcut V456 7 0 (0 : Int).toNat] 294, mi b245 (Value.int .i64) ([] : List (Int × Int)), row (vcut V456 7 0 (0 : Int).toNat) 66 7 (([] : List (List Value)).map id)]) := by
 refine Tri.en F321 rfl K321 rfl fun w0 => ?_
 refine J.co 2 rfl ?_
 refine O.l (Lo.al Y66 rfl) rfl ?_
 rintro _ _ ⟨g522, rfl, rfl⟩
 refine O.oc 3 rfl ?_
 refine J.dm [(0, false), (1, false), (2, false), (3, false), (4, false), (5, false), (6, false), (7, false), (8, false), (9, false), (10, false), (11, false), (12, false), (13, true), (14, true), (15, false)] [1, 2] Tryz.mixed (by kernel_rfl) rfl ?_
 refine Mx.r 3 rfl ?_
 refine Mx.q rfl (Qt.lv 0 A52 rfl rfl rfl) rfl ?_
 refine Mx.r 1 rfl ?_
 refine Mx.q rfl (Qt.ix U52 Z66 rfl (Src.row 1 rfl) (j := 0) (a := [.int .i64 3, .int .i64 1, .int .i64 (-1), .int .i64 50, .int .i64 9, .int .i64 0, .int .i64 3]) rfl rfl rfl) rfl ?_
 refine Mx.q rfl (Qt.lea A66 Z66 (Src.row 1 rfl) (j := 0) (a := [.int .i64 3, .int .i64 1, .int .i64 (-1), .int .i64 50, .int .i64 9, .int .i64 0, .int .i64 3]) rfl 0 rfl (by omega) rfl) rfl ?_
 refine Mx.r 3 rfl ?_
 refine Mx.q rfl (Qt.lv 0 A52 rfl rfl rfl) rfl ?_
 refine Mx.q rfl (Qt.lenM U52 rfl (Src.row 1 rfl)) rfl ?_
 refine Mx.p rfl (Pu.sub' rfl rfl (by decide)) rfl ?_
 refine Mx.l rfl (Lo.al Y66 rfl) rfl ?_
 rintro _ _ ⟨g523, rfl, rfl⟩
 refine MxK.gp [2, 3] [0, 1] rfl rfl ?_
 refine Mx.l0 rfl (Lo.st 0 Z66 rfl rfl rfl rfl rfl rfl rfl) ?_
 rintro _ _ rfl
 refine MxK.gp [2, 3] [0, 1] rfl rfl ?_
 refine Mx.r 1 rfl ?_
 refine Mx.nil ?_
 refine J.co 5 rfl ?_
 refine O.l (Lo.ca C352 (nb302 g244 b245 V456) [2, 3, 4] rfl rfl .nil) rfl ?_
 rintro _ _ ⟨_, ⟨rfl, rfl⟩, rfl⟩
 refine O.oo 7 rfl ?_
 refine O.q (Qt.lv 0 A52 rfl rfl rfl) rfl ?_
 refine O.oo 1 rfl ?_
 refine O.l (Lo.headRow 1 U52 Z66 rfl rfl rfl (by decide) (by decide)) rfl ?_
 rintro _ _ ⟨rfl, rfl⟩
 refine O.oo 2 rfl ?_
 refine O.one (Src.row 1 rfl) (fun hV531 => ?_)
 refine O.l0 (Lo.so 0 Z52 hV531 rfl rfl rfl rfl) ?_
 rintro _ _ rfl
 refine O.oc 2 rfl ?_
 refine J.drawTail 5 Tryz.mixed (by kernel_rfl) ?_
 refine S.r 4 rfl ?_
 refine S.q (Qt.lv 3 A3 rfl rfl rfl) rfl ?_
 refine S.endO ?_
 refine O.l (Lo.ca C353 (nb303 g244 b245 V456) [0, 2] rfl rfl .nil) rfl ?_
 rintro _ _ ⟨_, ⟨rfl, rfl⟩, rfl⟩
 refine O.oo 12 rfl ?_
 refine O.q (Qt.lva 3 A66 Z66 rfl rfl rfl) rfl ?_
 refine O.l0 (Lo.st 4 Z66 rfl rfl rfl rfl rfl rfl rfl) ?_
 rintro _ _ rfl
 refine O.oc 2 rfl ?_
 exact J.rn [_, _] [0, 1, 2] rfl ⟨⟨_, _, 0, 0, _, rfl, Cel.var 4 rfl, rfl, Cut.agg _ A66 Z66 rfl rfl⟩, rfl, trivial⟩ rfl ⟨rfl, rfl⟩

set_option maxRecDepth 100000 in
theorem nb305 (g244 : Nat) (b245 : Nat) (V456 : Value) : Tri Tryz.prog 266 #[.pointer (some ⟨g244, 0, none⟩)] [] [var g244 [.map (some b245), .int .i64 1, V456] 294, row V456 66 7 ([[.int .i64 3, .int .i64 1, .int .i64 (-1), .int .i64 50, .int .i64 9, .int .i64 0, .int .i64 3]].map id), mi b245 (Value.int .i64) [(3, 0)]] (fun v L' => v = .tuple #[.agg #[.int .i64 3, .int .i64 1, .int .i64 (-1), .int .i64 50, .int .i64 9, .int .i64 0, .int .i64 3], .bool true] ∧ L' = [var g244 [.map (some b245), .int .i64 1, vcut V456 7 0 (0 : Int).toNat] 294, mi b245 (Value.int .i64) ([] : List (Int × Int)), row (vcut V456 7 0 (0 : Int).toNat) 66 7 (([] : List (List Value)).map id)]) := by
 refine Tri.en F266 rfl K266 rfl fun w0 => ?_
 refine J.co 2 rfl ?_
 refine O.l (Lo.al Y66 rfl) rfl ?_
 rintro _ _ ⟨g521, rfl, rfl⟩
 refine O.oo 6 rfl ?_
 refine O.l (Lo.ca C219 (nb300 g244 b245 V456) [1, 2] rfl rfl .nil) rfl ?_
 rintro _ _ ⟨_, ⟨rfl, rfl⟩, rfl⟩
 refine O.oo 7 rfl ?_
 refine O.l (Lo.ca C321 (nb304 g244 b245 V456) [0, 1, 3] rfl rfl .nil) rfl ?_
 rintro _ _ ⟨_, ⟨rfl, rfl⟩, rfl⟩
 refine O.oo 2 rfl ?_
 refine O.l0 (Lo.st 3 Z66 rfl rfl rfl rfl rfl rfl rfl) ?_
 rintro _ _ rfl
 refine O.oc 2 rfl ?_
 exact J.rn [_, _] [0, 1, 2] rfl ⟨⟨_, _, 0, 0, _, rfl, Cel.var 3 rfl, rfl, Cut.agg _ A66 Z66 rfl rfl⟩, rfl, trivial⟩ rfl ⟨rfl, rfl⟩

set_option maxRecDepth 100000 in
theorem nb306 (g243 : Nat) (g244 : Nat) (b245 : Nat) (V456 : Value) : Tri Tryz.prog 184 #[.pointer (some ⟨g243, 0, none⟩)] [] [var g243 [.pointer (some ⟨g244, 0, none⟩), .int .i64 1] 206, var g244 [.map (some b245), .int .i64 1, V456] 294, row V456 66 7 ([[.int .i64 3, .int .i64 1, .int .i64 (-1), .int .i64 50, .int .i64 9, .int .i64 0, .int .i64 3]].map id), mi b245 (Value.int .i64) [(3, 0)]] (fun v L' => v = .tuple #[.agg #[.int .i64 3, .int .i64 1, .int .i64 (-1), .int .i64 50, .int .i64 9, .int .i64 0, .int .i64 3], .bool true] ∧ L' = [var g243 [.pointer (some ⟨g244, 0, none⟩), .int .i64 1] 206, var g244 [.map (some b245), .int .i64 1, vcut V456 7 0 (0 : Int).toNat] 294, mi b245 (Value.int .i64) ([] : List (Int × Int)), row (vcut V456 7 0 (0 : Int).toNat) 66 7 (([] : List (List Value)).map id)]) := by
 refine Tri.en F184 rfl K184 rfl fun w0 => ?_
 refine J.co 2 rfl ?_
 refine O.l (Lo.al Y66 rfl) rfl ?_
 rintro _ _ ⟨g520, rfl, rfl⟩
 refine O.oo 5 rfl ?_
 refine O.l (Lo.ca C114 (nb115 g243 g244) [1] rfl rfl .nil) rfl ?_
 rintro _ _ ⟨_, ⟨rfl, rfl⟩, rfl⟩
 refine O.l (Lo.ca C266 (nb305 g244 b245 V456) [2, 3, 4] rfl rfl .nil) rfl ?_
 rintro _ _ ⟨_, ⟨rfl, rfl⟩, rfl⟩
 refine O.oo 2 rfl ?_
 refine O.l0 (Lo.st 4 Z66 rfl rfl rfl rfl rfl rfl rfl) ?_
 rintro _ _ rfl
 refine O.oc 2 rfl ?_
 exact J.rn [_, _] [3, 0, 1, 2] rfl ⟨⟨_, _, 0, 0, _, rfl, Cel.var 4 rfl, rfl, Cut.agg _ A66 Z66 rfl rfl⟩, rfl, trivial⟩ rfl ⟨rfl, rfl⟩

set_option maxRecDepth 100000 in
theorem nb307 (g246 : Nat) : Tri Tryz.prog 267 #[.pointer (some ⟨g246, 0, none⟩), .int .i64 3] [] [var g246 (.int .i64 1 :: (rp 16 (Value.pointer none) [])) 210] (fun v L' => v = .tuple #[.int .i64 0, .bool false] ∧ L' = [var g246 (.int .i64 1 :: (rp 16 (Value.pointer none) [])) 210]) := by
 refine Tri.en F267 rfl K267 rfl fun w0 => ?_
 refine J.co 9 rfl ?_
 refine O.l (Lo.ca C116 (nb146 g246) [0] rfl rfl .nil) rfl ?_
 rintro _ _ ⟨_, ⟨rfl, rfl⟩, rfl⟩
 refine O.oc 3 rfl ?_
 refine J.un ?_
 refine J.co 20 rfl ?_
 refine O.p (Pu.indexAddrK 1 U208 Z207 rfl rfl (by decide) (by decide) rfl) rfl ?_
 refine O.q (Qt.lv 0 A207 rfl rfl rfl) rfl ?_
 refine O.oo 5 rfl ?_
 refine O.p (Pu.ptrNeNil N207 rfl) rfl ?_
 refine O.oo 13 rfl ?_
 refine O.p (Pu.add' rfl rfl (by decide)) rfl ?_
 refine O.oc 2 rfl ?_
 refine J.again ?_
 refine J.cc 12 rfl ?_
 exact J.rn [_, _] [0] rfl ⟨rfl, rfl, trivial⟩ rfl ⟨rfl, rfl⟩

set_option maxRecDepth 100000 in
theorem nb308 (g246 : Nat) : Tri Tryz.prog 185 #[.pointer (some ⟨g246, 0, none⟩), .agg #[.int .i64 3, .int .i64 1, .int .i64 (-1), .int .i64 50, .int .i64 9, .int .i64 0, .int .i64 3]] [] [var g246 (.int .i64 1 :: (rp 16 (Value.pointer none) [])) 210] (fun v L' => ∃ (g533 : Nat), v = .tuple #[.int .i64 0, .int .i64 0] ∧ L' = [var g246 (.int .i64 1 :: .pointer (some ⟨g533, 0, none⟩) :: (rp 15 (Value.pointer none) [])) 210, var g533 [.int .i64 3, .int .i64 1, .int .i64 (-1), .int .i64 50, .int .i64 9, .int .i64 0, .int .i64 3] 66]) := by
 refine Tri.en F185 rfl K185 rfl fun w0 => ?_
 refine J.co 2 rfl ?_
 refine O.l (Lo.bx rfl rfl) rfl ?_
 rintro _ _ ⟨g533, rfl, rfl⟩
 refine O.oo 8 rfl ?_
 refine O.q (Qt.lv 0 A3 rfl rfl rfl) rfl ?_
 refine O.l (Lo.ca C267 (nb307 g246) [1] rfl rfl .nil) rfl ?_
 rintro _ _ ⟨_, ⟨rfl, rfl⟩, rfl⟩
 refine O.oo 16 rfl ?_
 refine O.l (Lo.ca C116 (nb146 g246) [0] rfl rfl .nil) rfl ?_
 rintro _ _ ⟨_, ⟨rfl, rfl⟩, rfl⟩
 refine O.oc 3 rfl ?_
 refine J.un ?_
 refine J.co 20 rfl ?_
 refine O.p (Pu.indexAddrK 1 U208 Z207 rfl rfl (by decide) (by decide) rfl) rfl ?_
 refine O.q (Qt.lv 0 A207 rfl rfl rfl) rfl ?_
 refine O.p (Pu.nilEq N207 rfl) rfl ?_
 refine O.oo 8 rfl ?_
 refine O.p (Pu.indexAddrK 1 U208 Z207 rfl rfl (by decide) (by decide) rfl) rfl ?_
 refine O.l0 (Lo.st 0 Z207 rfl rfl rfl rfl rfl rfl rfl) ?_
 rintro _ _ rfl
 refine O.oc 7 rfl ?_
 exact J.rn [_, _] [0, 1] rfl ⟨rfl, rfl, trivial⟩ rfl ⟨g533, rfl, rfl⟩

set_option maxRecDepth 100000 in
theorem nb309 : Tri Tryz.prog 186 #[.agg #[.int .i64 3, .int .i64 1, .int .i64 (-1), .int .i64 50, .int .i64 9, .int .i64 0, .int .i64 3]] [] [] (fun v L' => v = .agg #[.int .i64 3, .int .i64 1, .int .i64 (-1), .int .i64 50, .int .i64 9, .int .i64 0, .int .i64 3, .int .i64 1, Value.slice none 0 0] ∧ L' = []) := by
 refine Tri.en F186 rfl K186 rfl fun w0 => ?_
 refine J.co 2 rfl ?_
 refine O.l (Lo.bx rfl rfl) rfl ?_
 rintro _ _ ⟨g534, rfl, rfl⟩
 refine O.l (Lo.al Y68 rfl) rfl ?_
 rintro _ _ ⟨g535, rfl, rfl⟩
 refine O.oo 3 rfl ?_
 refine O.q (Qt.lva 1 A66 Z66 rfl rfl rfl) rfl ?_
 refine O.p (Pu.build [(0, .agg #[.int .i64 3, .int .i64 1, .int .i64 (-1), .int .i64 50, .int .i64 9, .int .i64 0, .int .i64 3]), (1, .int .i64 1)] [.int .i64 3, .int .i64 1, .int .i64 (-1), .int .i64 50, .int .i64 9, .int .i64 0, .int .i64 3, .int .i64 1, Value.slice none 0 0] #[(0, 7), (7, 1), (8, 1)] U68 Y68 (places68 N68) rfl (by kernel_rfl)) rfl ?_
 refine O.l0 (Lo.st 0 Z68 rfl rfl rfl rfl rfl rfl rfl) ?_
 rintro _ _ rfl
 refine O.oc 1 rfl ?_
 exact J.rn [_] [] rfl ⟨⟨_, _, 0, 0, _, rfl, Cel.var 0 rfl, rfl, Cut.agg _ A68 Z68 rfl rfl⟩, trivial⟩ rfl ⟨rfl, rfl⟩

set_option maxRecDepth 100000 in
theorem nb310 : Tri Tryz.prog 205 #[.int .i64 1, .int .i64 1] [] [] (fun v L' => v = .int .i64 2 ∧ L' = []) := by
 refine Tri.en F205 rfl K205 rfl fun w0 => ?_
 refine J.co 8 rfl ?_
 refine O.p (Pu.add' rfl rfl (by decide)) rfl ?_
 refine O.oc 2 rfl ?_
 exact J.r0 rfl rfl ⟨rfl, rfl⟩

set_option maxRecDepth 100000 in
theorem nb311 : Tri Tryz.prog 226 #[.int .i64 1, .int .i64 1, .func (.func 205) #[] #[]] [] [] (fun v L' => v = .int .i64 2 ∧ L' = []) := by
 refine Tri.en F226 rfl K226 rfl fun w0 => ?_
 refine J.co 8 rfl ?_
 refine O.l (Lo.ca C199 nb126 [] rfl rfl .nil) rfl ?_
 rintro _ _ ⟨_, ⟨rfl, rfl⟩, rfl⟩
 refine O.oo 1 rfl ?_
 refine O.l (Lo.ca C199 nb126 [] rfl rfl .nil) rfl ?_
 rintro _ _ ⟨_, ⟨rfl, rfl⟩, rfl⟩
 refine O.l (Lo.cv C205 rfl rfl nb310 [] rfl .nil) rfl ?_
 rintro _ _ ⟨_, ⟨rfl, rfl⟩, rfl⟩
 refine O.l (Lo.ca C199 nb92 [] rfl rfl .nil) rfl ?_
 rintro _ _ ⟨_, ⟨rfl, rfl⟩, rfl⟩
 refine O.oc 2 rfl ?_
 exact J.r0 rfl rfl ⟨rfl, rfl⟩

set_option maxRecDepth 100000 in
theorem nb312 : Tri Tryz.prog 288 #[.int .i64 1, .int .i64 1] [] [] (fun v L' => v = .int .i64 2 ∧ L' = []) := by
 refine Tri.en F288 rfl K288 rfl fun w0 => ?_
 refine J.co 8 rfl ?_
 refine O.l (Lo.ca C226 nb311 [] rfl rfl .nil) rfl ?_
 rintro _ _ ⟨_, ⟨rfl, rfl⟩, rfl⟩
 refine O.oc 2 rfl ?_
 exact J.r0 rfl rfl ⟨rfl, rfl⟩

set_option maxRecDepth 100000 in
theorem nb313 (g239 : Nat) : Tri Tryz.prog 269 #[.pointer (some ⟨g239, 0, none⟩), .int .i64 0] [] [var g239 [.int .i64 1, .int .i64 0, .int .i64 0] 311] (fun v L' => v = .tuple #[] ∧ L' = [var g239 [.int .i64 2, .int .i64 0, .int .i64 0] 311]) := by
 refine Tri.en F269 rfl K269 rfl fun w0 => ?_
 refine J.co 4 rfl ?_
 refine O.p (Pu.someEq N170 rfl) rfl ?_
 refine O.oc 4 rfl ?_
 refine J.dm [(0, false), (1, false), (2, false), (3, false), (4, false), (5, false), (7, false), (8, false), (6, true), (9, false), (10, true)] [0] Tryz.mixed (by kernel_rfl) rfl ?_
 refine Mx.r 4 rfl ?_
 refine Mx.p rfl (Pu.indexAddrK 0 U95 Z3 rfl rfl (by decide) (by decide) rfl) rfl ?_
 refine Mx.q rfl (Qt.lv 0 A3 rfl rfl rfl) rfl ?_
 refine Mx.r 2 rfl ?_
 refine Mx.l rfl (Lo.ca C288 nb312 [] rfl rfl .nil) rfl ?_
 rintro _ _ ⟨_, ⟨rfl, rfl⟩, rfl⟩
 refine MxK.gp [0] [0] rfl rfl ?_
 refine Mx.p rfl (Pu.indexAddrK 0 U95 Z3 rfl rfl (by decide) (by decide) rfl) rfl ?_
 refine Mx.l0 rfl (Lo.st 0 Z3 rfl rfl rfl rfl rfl rfl rfl) ?_
 rintro _ _ rfl
 refine MxK.al [0] rfl (by kernel_rfl) ?_
 refine Mx.nil ?_
 refine J.cc 1 rfl ?_
 refine J.dm [(0, false), (1, false), (2, false), (3, false), (4, false), (5, false), (6, false), (8, false), (9, false), (7, true), (10, false), (11, true)] [0] Tryz.mixed (by kernel_rfl) rfl ?_
 refine Mx.r 4 rfl ?_
 refine Mx.p rfl (Pu.indexAddrK 1 U95 Z3 rfl rfl (by decide) (by decide) rfl) rfl ?_
 refine Mx.q rfl (Qt.lv 0 A3 rfl rfl rfl) rfl ?_
 refine Mx.r 3 rfl ?_
 refine Mx.l rfl (Lo.ca C288 nb166 [] rfl rfl .nil) rfl ?_
 rintro _ _ ⟨_, ⟨rfl, rfl⟩, rfl⟩
 refine MxK.gp [0] [0] rfl rfl ?_
 refine Mx.p rfl (Pu.indexAddrK 1 U95 Z3 rfl rfl (by decide) (by decide) rfl) rfl ?_
 refine Mx.l0 rfl (Lo.st 0 Z3 rfl rfl rfl rfl rfl rfl rfl) ?_
 rintro _ _ rfl
 refine MxK.al [0] rfl (by kernel_rfl) ?_
 refine Mx.nil ?_
 refine J.dm [(0, false), (1, false), (2, false), (3, false), (4, false), (5, false), (6, false), (9, false), (10, false), (7, true), (8, false), (11, false), (12, true)] [0] Tryz.mixed (by kernel_rfl) rfl ?_
 refine Mx.r 4 rfl ?_
 refine Mx.p rfl (Pu.indexAddrK 2 U95 Z3 rfl rfl (by decide) (by decide) rfl) rfl ?_
 refine Mx.q rfl (Qt.lv 0 A3 rfl rfl rfl) rfl ?_
 refine Mx.r 3 rfl ?_
 refine Mx.l rfl (Lo.ca C199 nb125 [] rfl rfl .nil) rfl ?_
 rintro _ _ ⟨_, ⟨rfl, rfl⟩, rfl⟩
 refine MxK.gp [0] [0] rfl rfl ?_
 refine Mx.p rfl (Pu.max rfl rfl) rfl ?_
 refine Mx.p rfl (Pu.indexAddrK 2 U95 Z3 rfl rfl (by decide) (by decide) rfl) rfl ?_
 refine Mx.l0 rfl (Lo.st 0 Z3 rfl rfl rfl rfl rfl rfl rfl) ?_
 rintro _ _ rfl
 refine MxK.al [0] rfl (by kernel_rfl) ?_
 refine Mx.nil ?_
 exact J.dn [] [0] rfl trivial rfl ⟨rfl, rfl⟩

set_option maxRecDepth 100000 in
theorem nb314 (g235 : Nat) (g236 : Nat) (g237 : Nat) (g238 : Nat) (g239 : Nat) : Tri Tryz.prog 188 #[.pointer (some ⟨g235, 0, none⟩), .int .i64 0] [] [var g235 [.pointer (some ⟨g236, 0, none⟩), .pointer (some ⟨g237, 0, none⟩), .int .i64 8, .int .i64 1, .int .i64 1, .int .i64 4, .int .i64 10, .int .i64 5, .int .i64 1, .int .i64 3, .int .i64 2, .pointer (some ⟨g238, 0, none⟩), .pointer (some ⟨g239, 0, none⟩), .int .i64 8, .int .i64 1] 172, var g239 [.int .i64 1, .int .i64 0, .int .i64 0] 311] (fun v L' => v = .tuple #[] ∧ L' = [var g235 [.pointer (some ⟨g236, 0, none⟩), .pointer (some ⟨g237, 0, none⟩), .int .i64 8, .int .i64 1, .int .i64 1, .int .i64 4, .int .i64 10, .int .i64 5, .int .i64 1, .int .i64 3, .int .i64 2, .pointer (some ⟨g238, 0, none⟩), .pointer (some ⟨g239, 0, none⟩), .int .i64 8, .int .i64 1] 172, var g239 [.int .i64 2, .int .i64 0, .int .i64 0] 311]) := by
 refine Tri.en F188 rfl K188 rfl fun w0 => ?_
 refine J.co 3 rfl ?_
 refine O.l (Lo.ca C173 (nb123 g235 g236 g237 g238 g239) [0] rfl rfl .nil) rfl ?_
 rintro _ _ ⟨_, ⟨rfl, rfl⟩, rfl⟩
 refine O.oo 6 rfl ?_
 refine O.q (Qt.lv 0 A170 rfl rfl rfl) rfl ?_
 refine O.oo 1 rfl ?_
 refine O.l (Lo.ca C269 (nb313 g239) [1] rfl rfl .nil) rfl ?_
 rintro _ _ ⟨_, ⟨rfl, rfl⟩, rfl⟩
 refine O.oc 1 rfl ?_
 exact J.dn [] [1, 0] rfl trivial rfl ⟨rfl, rfl⟩

set_option maxRecDepth 100000 in
theorem nb315 (g473 : Nat) (g228 : Nat) (V518 : Value) (V519 : Value) (g235 : Nat) (V230 : Value) (V233 : Value) (g240 : Nat) (g243 : Nat) (g246 : Nat) (b224 : Nat) (g225 : Nat) (g247 : Nat) : Tri Tryz.prog 80 #[.pointer (some ⟨g473, 0, none⟩), .int .i64 3, .int .i64 3, .int .i64 0, .int .i64 0, .int .i64 50] [] [var g473 [.pointer (some ⟨g228, 0, none⟩), V518, V519] 261, var g228 [.pointer (some ⟨g235, 0, none⟩), .int .i64 2, .int .i64 4, .int .i64 1000, .int .u64 1, V230, .int .i64 0, .int .i64 1, .int .i64 1, .int .i64 10, .int .i64 1, .int .i64 64, .int .i64 20, .int .i64 1, .int .i64 4, .int .i64 10, .int .i64 5, .int .i64 1, .int .i64 3, .int .i64 2, V233, .int .i64 0, .int .i64 0, .int .i64 3, .int .i64 0, .pointer (some ⟨g240, 0, none⟩), .pointer (some ⟨g243, 0, none⟩), .pointer (some ⟨g246, 0, none⟩), .map (some b224), .pointer (some ⟨g225, 0, none⟩), .pointer (some ⟨g247, 0, none⟩)] 90, row V518 51 7 ([[.int .i64 4, .int .i64 0, .int .i64 0, .int .i64 1, .int .i64 1, .int .i64 2, .int .i64 0]].map id)] (fun v L' => ∃ (V537 : Value), v = .tuple #[] ∧ L' = [var g473 [.pointer (some ⟨g228, 0, none⟩), V537, V519] 261, var g228 [.pointer (some ⟨g235, 0, none⟩), .int .i64 2, .int .i64 4, .int .i64 1000, .int .u64 1, V230, .int .i64 0, .int .i64 1, .int .i64 1, .int .i64 10, .int .i64 1, .int .i64 64, .int .i64 20, .int .i64 1, .int .i64 4, .int .i64 10, .int .i64 5, .int .i64 1, .int .i64 3, .int .i64 2, V233, .int .i64 0, .int .i64 0, .int .i64 3, .int .i64 0, .pointer (some ⟨g240, 0, none⟩), .pointer (some ⟨g243, 0, none⟩), .pointer (some ⟨g246, 0, none⟩), .map (some b224), .pointer (some ⟨g225, 0, none⟩), .pointer (some ⟨g247, 0, none⟩)] 90, row V537 51 7 ([[.int .i64 4, .int .i64 0, .int .i64 0, .int .i64 1, .int .i64 1, .int .i64 2, .int .i64 0], [.int .i64 3, .int .i64 0, .int .i64 0, .int .i64 3, .int .i64 0, .int .i64 0, .int .i64 50]].map id)]) := by
 refine Tri.en F80 rfl K80 rfl fun w0 => ?_
 refine J.dm [(0, false), (1, false), (2, false), (3, false), (4, false), (5, false), (6, false), (7, false), (8, false), (9, false), (10, false), (11, false), (12, false), (13, false), (14, false), (15, false), (16, false), (17, false), (18, false), (19, false), (20, false), (21, false), (22, false), (23, false), (24, false), (25, false), (26, true), (27, true), (28, false), (29, false), (30, false), (31, true)] [0, 1] Tryz.mixed (by kernel_rfl) rfl ?_
 refine Mx.r 5 rfl ?_
 refine Mx.q rfl (Qt.lv 0 A33 rfl rfl rfl) rfl ?_
 refine Mx.r 4 rfl ?_
 refine Mx.q rfl (Qt.lv 0 A29 rfl rfl rfl) rfl ?_
 refine Mx.r 2 rfl ?_
 refine Mx.q rfl (Qt.lv 1 A3 rfl rfl rfl) rfl ?_
 refine Mx.r 3 rfl ?_
 refine Mx.q rfl (Qt.lv 0 A29 rfl rfl rfl) rfl ?_
 refine Mx.r 2 rfl ?_
 refine Mx.q rfl (Qt.lv 1 A3 rfl rfl rfl) rfl ?_
 refine Mx.r 4 rfl ?_
 refine Mx.p rfl (Pu.build [(0, .int .i64 3), (1, .int .i64 0), (2, .int .i64 0), (3, .int .i64 3), (4, .int .i64 0), (5, .int .i64 0), (6, .int .i64 50)] [.int .i64 3, .int .i64 0, .int .i64 0, .int .i64 3, .int .i64 0, .int .i64 0, .int .i64 50] #[(0, 1), (1, 1), (2, 1), (3, 1), (4, 1), (5, 1), (6, 1)] U51 Y51 (places51 N51) rfl (by kernel_rfl)) rfl ?_
 refine Mx.l rfl (Lo.bm id [[.int .i64 3, .int .i64 0, .int .i64 0, .int .i64 3, .int .i64 0, .int .i64 0, .int .i64 50]] U33 Z51 Y51 rfl rfl rfl (by kernel_rfl) rfl rfl) rfl ?_
 rintro V536 _ rfl
 refine MxK.gp [1, 2] [0, 1] rfl rfl ?_
 refine Mx.l rfl (Lo.am 3 N33 info51 rfl rfl rfl rfl rfl (Src.row 0 rfl) (id_one rfl) (Nat.le_of_ble_eq_true rfl) (Nat.le_of_ble_eq_true rfl)) rfl ?_
 rintro V537 _ rfl
 refine MxK.gp [1, 2] [0, 1] rfl rfl ?_
 refine Mx.r 3 rfl ?_
 refine Mx.one rfl (fun _ h => by cases h <;> rfl) (Src.row 3 rfl) (fun hV538 => ?_)
 refine Mx.l0 rfl (Lo.so 1 Z33 hV538 rfl rfl rfl rfl) ?_
 rintro _ _ rfl
 refine MxK.al [1, 2] rfl (by kernel_rfl) ?_
 refine Mx.nil ?_
 exact J.dn [] [1, 2, 3] rfl trivial rfl ⟨V537, rfl, rfl⟩

set_option maxRecDepth 100000 in
theorem nb316 (g246 : Nat) (g533 : Nat) : Tri Tryz.prog 117 #[.pointer (some ⟨g246, 0, none⟩), .int .i64 0] [] [var g246 (.int .i64 1 :: .pointer (some ⟨g533, 0, none⟩) :: (rp 15 (Value.pointer none) [])) 210, var g533 [.int .i64 3, .int .i64 1, .int .i64 (-1), .int .i64 50, .int .i64 9, .int .i64 0, .int .i64 3] 66] (fun v L' => v = .tuple #[.agg #[.int .i64 3, .int .i64 1, .int .i64 (-1), .int .i64 50, .int .i64 9, .int .i64 0, .int .i64 3], .bool true] ∧ L' = [var g246 (.int .i64 1 :: .pointer (some ⟨g533, 0, none⟩) :: (rp 15 (Value.pointer none) [])) 210, var g533 [.int .i64 3, .int .i64 1, .int .i64 (-1), .int .i64 50, .int .i64 9, .int .i64 0, .int .i64 3] 66]) := by
 refine Tri.en F117 rfl K117 rfl fun w0 => ?_
 refine J.co 2 rfl ?_
 refine O.l (Lo.al Y66 rfl) rfl ?_
 rintro _ _ ⟨g539, rfl, rfl⟩
 refine O.oo 10 rfl ?_
 refine O.gy (Lo.ca C116 (nb170 g246 g533) [1] rfl rfl .nil) rfl rfl ?_
 rintro _ _ ⟨_, ⟨rfl, rfl⟩, rfl⟩
 refine O.oo 7 rfl ?_
 refine O.gz (Pu.qt (Pu.indexAddrK 1 U208 Z207 rfl rfl (by decide) (by decide) rfl)) rfl rfl ?_
 refine O.gz (Qt.lv 0 A207 rfl rfl rfl) rfl rfl ?_
 refine O.gz (Pu.qt (Pu.someEq N207 rfl)) rfl rfl ?_
 refine O.oo 10 rfl ?_
 refine O.p (Pu.indexAddrK 1 U208 Z207 rfl rfl (by decide) (by decide) rfl) rfl ?_
 refine O.q (Qt.lv 0 A207 rfl rfl rfl) rfl ?_
 refine O.oo 1 rfl ?_
 refine O.q (Qt.lva 2 A66 Z66 rfl rfl rfl) rfl ?_
 refine O.l0 (Lo.st 1 Z66 rfl rfl rfl rfl rfl rfl rfl) ?_
 rintro _ _ rfl
 refine O.oc 2 rfl ?_
 exact J.rn [_, _] [0, 2] rfl ⟨⟨_, _, 0, 0, _, rfl, Cel.var 1 rfl, rfl, Cut.agg _ A66 Z66 rfl rfl⟩, rfl, trivial⟩ rfl ⟨rfl, rfl⟩

set_option maxRecDepth 100000 in
theorem nb317 (g246 : Nat) (g533 : Nat) : Tri Tryz.prog 41 #[.pointer (some ⟨g246, 0, none⟩)] [] [var g246 (.int .i64 1 :: .pointer (some ⟨g533, 0, none⟩) :: (rp 15 (Value.pointer none) [])) 210, var g533 [.int .i64 3, .int .i64 1, .int .i64 (-1), .int .i64 50, .int .i64 9, .int .i64 0, .int .i64 3] 66] (fun v L' => ∃ (V542 : Value), v = V542 ∧ L' = [var g246 (.int .i64 1 :: .pointer (some ⟨g533, 0, none⟩) :: (rp 15 (Value.pointer none) [])) 210, var g533 [.int .i64 3, .int .i64 1, .int .i64 (-1), .int .i64 50, .int .i64 9, .int .i64 0, .int .i64 3] 66, row V542 66 7 ([[.int .i64 3, .int .i64 1, .int .i64 (-1), .int .i64 50, .int .i64 9, .int .i64 0, .int .i64 3]].map id)]) := by
 refine Tri.en F41 rfl K41 rfl fun w0 => ?_
 refine J.co 12 rfl ?_
 refine O.l (Lo.ca C116 (nb170 g246 g533) [0] rfl rfl .nil) rfl ?_
 rintro _ _ ⟨_, ⟨rfl, rfl⟩, rfl⟩
 refine O.oc 3 rfl ?_
 refine J.un ?_
 refine J.co 18 rfl ?_
 refine O.l (Lo.ca C117 (nb316 g246 g533) [0, 1] rfl rfl .nil) rfl ?_
 rintro _ _ ⟨_, ⟨rfl, rfl⟩, rfl⟩
 refine O.oo 3 rfl ?_
 refine O.l (Lo.al Y66 rfl) rfl ?_
 rintro _ _ ⟨g540, rfl, rfl⟩
 refine O.l0 (Lo.st 0 Z66 rfl rfl rfl rfl rfl rfl rfl) ?_
 rintro _ _ rfl
 refine O.oo 9 rfl ?_
 refine O.q (Qt.lva 0 A66 Z66 rfl rfl rfl) rfl ?_
 refine O.l (Lo.bm id [[.int .i64 3, .int .i64 1, .int .i64 (-1), .int .i64 50, .int .i64 9, .int .i64 0, .int .i64 3]] U52 Z66 Y66 rfl rfl rfl (by kernel_rfl) rfl rfl) rfl ?_
 rintro V541 _ rfl
 refine O.nr 66 7 (([] : List (List Value)).map id) rfl ?_
 refine O.l (Lo.am 0 N52 info66 rfl rfl rfl rfl rfl (Src.row 1 rfl) (id_one rfl) (Nat.le_of_ble_eq_true rfl) (Nat.le_of_ble_eq_true rfl)) rfl ?_
 rintro V542 _ rfl
 refine O.oo 4 rfl ?_
 refine O.p (Pu.add' rfl rfl (by decide)) rfl ?_
 refine O.oc 2 rfl ?_
 refine J.again ?_
 refine J.cc 12 rfl ?_
 exact J.r1 [3, 4, 0] rfl rfl rfl ⟨V542, rfl, rfl⟩

set_option maxRecDepth 100000 in
theorem nb318 (g246 : Nat) (g533 : Nat) : Tri Tryz.prog 183 #[.pointer (some ⟨g246, 0, none⟩)] [] [var g246 (.int .i64 1 :: .pointer (some ⟨g533, 0, none⟩) :: (rp 15 (Value.pointer none) [])) 210, var g533 [.int .i64 3, .int .i64 1, .int .i64 (-1), .int .i64 50, .int .i64 9, .int .i64 0, .int .i64 3] 66] (fun v L' => v = .int .i64 0 ∧ L' = [var g246 (.int .i64 1 :: .pointer (some ⟨g533, 0, none⟩) :: (rp 15 (Value.pointer none) [])) 210, var g533 [.int .i64 3, .int .i64 1, .int .i64 (-1), .int .i64 50, .int .i64 9, .int .i64 0, .int .i64 3] 66]) := by
 refine Tri.en F183 rfl K183 rfl fun w0 => ?_
 refine J.co 7 rfl ?_
 refine O.l (Lo.ca C116 (nb170 g246 g533) [0] rfl rfl .nil) rfl ?_
 rintro _ _ ⟨_, ⟨rfl, rfl⟩, rfl⟩
 refine O.oo 1 rfl ?_
 refine O.l (Lo.ca C41 (nb317 g246 g533) [0, 1] rfl rfl .nil) rfl ?_
 rintro V542 _ ⟨_, ⟨_, rfl, rfl⟩, rfl⟩
 refine O.q (Qt.lenM U52 rfl (Src.row 2 rfl)) rfl ?_
 refine O.p (Pu.sub' rfl rfl (by decide)) rfl ?_
 refine O.oc 2 rfl ?_
 exact J.r1 [0, 1] rfl rfl rfl ⟨rfl, rfl⟩

set_option maxRecDepth 100000 in
theorem nb319 (g473 : Nat) (g228 : Nat) (V518 : Value) (V519 : Value) (g235 : Nat) (V230 : Value) (V233 : Value) (g240 : Nat) (g243 : Nat) (g246 : Nat) (b224 : Nat) (g225 : Nat) (g247 : Nat) (g244 : Nat) (b245 : Nat) (V456 : Value) (g236 : Nat) (g237 : Nat) (g238 : Nat) (g239 : Nat) : Tri Tryz.prog 86 #[.pointer (some ⟨g473, 0, none⟩)] [] [var g473 [.pointer (some ⟨g228, 0, none⟩), V518, V519] 261, var g228 [.pointer (some ⟨g235, 0, none⟩), .int .i64 2, .int .i64 4, .int .i64 1000, .int .u64 1, V230, .int .i64 0, .int .i64 1, .int .i64 1, .int .i64 10, .int .i64 1, .int .i64 64, .int .i64 20, .int .i64 1, .int .i64 4, .int .i64 10, .int .i64 5, .int .i64 1, .int .i64 3, .int .i64 2, V233, .int .i64 0, .int .i64 0, .int .i64 3, .int .i64 0, .pointer (some ⟨g240, 0, none⟩), .pointer (some ⟨g243, 0, none⟩), .pointer (some ⟨g246, 0, none⟩), .map (some b224), .pointer (some ⟨g225, 0, none⟩), .pointer (some ⟨g247, 0, none⟩)] 90, var g246 (.int .i64 1 :: (rp 16 (Value.pointer none) [])) 210, var g243 [.pointer (some ⟨g244, 0, none⟩), .int .i64 1] 206, var g244 [.map (some b245), .int .i64 1, V456] 294, row V456 66 7 ([[.int .i64 3, .int .i64 1, .int .i64 (-1), .int .i64 50, .int .i64 9, .int .i64 0, .int .i64 3]].map id), mi b245 (Value.int .i64) [(3, 0)], mi b224 (id : Value → Value) ([] : List (Int × Value)), var g235 [.pointer (some ⟨g236, 0, none⟩), .pointer (some ⟨g237, 0, none⟩), .int .i64 8, .int .i64 1, .int .i64 1, .int .i64 4, .int .i64 10, .int .i64 5, .int .i64 1, .int .i64 3, .int .i64 2, .pointer (some ⟨g238, 0, none⟩), .pointer (some ⟨g239, 0, none⟩), .int .i64 8, .int .i64 1] 172, var g239 [.int .i64 1, .int .i64 0, .int .i64 0] 311, row V518 51 7 ([[.int .i64 4, .int .i64 0, .int .i64 0, .int .i64 1, .int .i64 1, .int .i64 2, .int .i64 0]].map id)] (fun v L' => ∃ (V537 : Value) (g533 : Nat), v = .tuple #[] ∧ L' = [var g473 [.pointer (some ⟨g228, 0, none⟩), V537, V519] 261, var g228 [.pointer (some ⟨g235, 0, none⟩), .int .i64 2, .int .i64 4, .int .i64 1000, .int .u64 1, V230, .int .i64 0, .int .i64 1, .int .i64 1, .int .i64 10, .int .i64 1, .int .i64 64, .int .i64 20, .int .i64 1, .int .i64 4, .int .i64 10, .int .i64 5, .int .i64 1, .int .i64 3, .int .i64 2, V233, .int .i64 0, .int .i64 0, .int .i64 3, .int .i64 0, .pointer (some ⟨g240, 0, none⟩), .pointer (some ⟨g243, 0, none⟩), .pointer (some ⟨g246, 0, none⟩), .map (some b224), .pointer (some ⟨g225, 0, none⟩), .pointer (some ⟨g247, 0, none⟩)] 90, var g246 (.int .i64 1 :: .pointer (some ⟨g533, 0, none⟩) :: (rp 15 (Value.pointer none) [])) 210, var g243 [.pointer (some ⟨g244, 0, none⟩), .int .i64 1] 206, var g244 [.map (some b245), .int .i64 1, vcut V456 7 0 (0 : Int).toNat] 294, mi b245 (Value.int .i64) ([] : List (Int × Int)), mi b224 (id : Value → Value) [(3, (.agg #[.int .i64 3, .int .i64 1, .int .i64 (-1), .int .i64 50, .int .i64 9, .int .i64 0, .int .i64 3, .int .i64 1, Value.slice none 0 0] : Value))], var g235 [.pointer (some ⟨g236, 0, none⟩), .pointer (some ⟨g237, 0, none⟩), .int .i64 8, .int .i64 1, .int .i64 1, .int .i64 4, .int .i64 10, .int .i64 5, .int .i64 1, .int .i64 3, .int .i64 2, .pointer (some ⟨g238, 0, none⟩), .pointer (some ⟨g239, 0, none⟩), .int .i64 8, .int .i64 1] 172, var g239 [.int .i64 2, .int .i64 0, .int .i64 0] 311, row V537 51 7 ([[.int .i64 4, .int .i64 0, .int .i64 0, .int .i64 1, .int .i64 1, .int .i64 2, .int .i64 0], [.int .i64 3, .int .i64 0, .int .i64 0, .int .i64 3, .int .i64 0, .int .i64 0, .int .i64 50]].map id), var g533 [.int .i64 3, .int .i64 1, .int .i64 (-1), .int .i64 50, .int .i64 9, .int .i64 0, .int .i64 3] 66, row (vcut V456 7 0 (0 : Int).toNat) 66 7 (([] : List (List Value)).map id)]) := by
 refine Tri.en F86 rfl K86 rfl fun w0 => ?_
 refine J.co 5 rfl ?_
 refine O.q (Qt.lv 0 A29 rfl rfl rfl) rfl ?_
 refine O.oc 3 rfl ?_
 refine J.un ?_
 refine J.co 6 rfl ?_
 refine O.q (Qt.lv 1 A85 rfl rfl rfl) rfl ?_
 refine O.l (Lo.ca C183 (nb149 g246) [2] rfl rfl .nil) rfl ?_
 rintro _ _ ⟨_, ⟨rfl, rfl⟩, rfl⟩
 refine O.oo 10 rfl ?_
 refine O.q (Qt.lv 2 A84 rfl rfl rfl) rfl ?_
 refine O.l (Lo.ca C184 (nb306 g243 g244 b245 V456) [3, 4, 5, 6] rfl rfl .nil) rfl ?_
 rintro _ _ ⟨_, ⟨rfl, rfl⟩, rfl⟩
 refine O.oo 3 rfl ?_
 refine O.l (Lo.al Y66 rfl) rfl ?_
 rintro _ _ ⟨g532, rfl, rfl⟩
 refine O.l0 (Lo.st 0 Z66 rfl rfl rfl rfl rfl rfl rfl) ?_
 rintro _ _ rfl
 refine O.oc 11 rfl ?_
 refine J.drawTail 5 Tryz.mixed (by kernel_rfl) ?_
 refine S.r 3 rfl ?_
 refine S.q (Qt.lv 7 A85 rfl rfl rfl) rfl ?_
 refine S.q (Qt.lva 0 A66 Z66 rfl rfl rfl) rfl ?_
 refine S.endO ?_
 refine O.l (Lo.ca C185 (nb308 g246) [5] rfl rfl .nil) rfl ?_
 rintro _ _ ⟨_, ⟨g533, rfl, rfl⟩, rfl⟩
 refine O.oc 2 rfl ?_
 refine J.dm [(0, false), (1, false), (2, false), (3, false), (4, false), (5, false), (6, false), (7, true), (8, true)] [2, 8] Tryz.mixed (by kernel_rfl) rfl ?_
 refine Mx.r 3 rfl ?_
 refine Mx.q rfl (Qt.lv 1 A86 rfl rfl rfl) rfl ?_
 refine Mx.r 1 rfl ?_
 refine Mx.q rfl (Qt.lv 0 A3 rfl rfl rfl) rfl ?_
 refine Mx.q rfl (Qt.lva 0 A66 Z66 rfl rfl rfl) rfl ?_
 refine Mx.l rfl (Lo.ca C186 nb309 [] rfl rfl .nil) rfl ?_
 rintro _ _ ⟨_, ⟨rfl, rfl⟩, rfl⟩
 refine MxK.gp [2, 8] [0, 1] rfl rfl ?_
 refine Mx.l0 rfl (Lo.mapPut (u := (.agg #[.int .i64 3, .int .i64 1, .int .i64 (-1), .int .i64 50, .int .i64 9, .int .i64 0, .int .i64 3, .int .i64 1, Value.slice none 0 0] : Value)) 9 N86 N3 rfl rfl rfl rfl) ?_
 rintro _ _ rfl
 refine MxK.al [2, 8] rfl (by kernel_rfl) ?_
 refine Mx.nil ?_
 refine J.cc 1 rfl ?_
 refine J.drawTail 6 Tryz.mixed (by kernel_rfl) ?_
 refine S.r 3 rfl ?_
 refine S.q (Qt.lv 8 A3 rfl rfl rfl) rfl ?_
 refine S.r 1 rfl ?_
 refine S.q (Qt.lv 2 A3 rfl rfl rfl) rfl ?_
 refine S.endO ?_
 refine O.l (Lo.ca C187 nb163 [] rfl rfl .nil) rfl ?_
 rintro _ _ ⟨_, ⟨rfl, rfl⟩, rfl⟩
 refine O.oo 7 rfl ?_
 refine O.q (Qt.lv 8 A82 rfl rfl rfl) rfl ?_
 refine O.oo 1 rfl ?_
 refine O.l (Lo.ca C188 (nb314 g235 g236 g237 g238 g239) [10, 11] rfl rfl .nil) rfl ?_
 rintro _ _ ⟨_, ⟨rfl, rfl⟩, rfl⟩
 refine O.oo 4 rfl ?_
 refine O.q (Qt.lv 4 A3 rfl rfl rfl) rfl ?_
 refine O.oo 2 rfl ?_
 refine O.q (Qt.lv 4 A3 rfl rfl rfl) rfl ?_
 refine O.l (Lo.ca C80 (nb315 g473 g228 V518 V519 g235 V230 V233 g240 g243 g246 b224 g225 g247) [9, 10, 12] rfl rfl .nil) rfl ?_
 rintro _ _ ⟨_, ⟨V537, rfl, rfl⟩, rfl⟩
 refine O.oc 2 rfl ?_
 refine J.again ?_
 refine J.co 6 rfl ?_
 refine O.q (Qt.lv 1 A85 rfl rfl rfl) rfl ?_
 refine O.l (Lo.ca C183 (nb318 g246 g533) [5, 6] rfl rfl .nil) rfl ?_
 rintro _ _ ⟨_, ⟨rfl, rfl⟩, rfl⟩
 refine O.oc 4 rfl ?_
 exact J.dn [] [2, 3, 0, 8, 9, 10, 12, 5, 6, 4, 1, 11] rfl trivial rfl ⟨V537, g533, rfl, rfl⟩

set_option maxRecDepth 100000 in
theorem nb320 (g473 : Nat) (g468 : Nat) (g469 : Nat) (g470 : Nat) (g228 : Nat) (g235 : Nat) (V230 : Value) (V233 : Value) (g240 : Nat) (g243 : Nat) (g246 : Nat) (b224 : Nat) (g225 : Nat) (g247 : Nat) (g236 : Nat) (g237 : Nat) (g238 : Nat) (g239 : Nat) (g305 : Nat) (b227 : Nat) (b226 : Nat) (g244 : Nat) (b245 : Nat) (V456 : Value) : Tri Tryz.prog 189 #[.pointer (some ⟨g473, 0, none⟩), .pointer (some ⟨g468, 0, none⟩), .pointer (some ⟨g469, 0, none⟩), .pointer (some ⟨g470, 0, none⟩)] [] [var g468 [.pointer (some ⟨g228, 0, none⟩)] 29, var g228 [.pointer (some ⟨g235, 0, none⟩), .int .i64 2, .int .i64 4, .int .i64 1000, .int .u64 1, V230, .int .i64 0, .int .i64 1, .int .i64 1, .int .i64 10, .int .i64 1, .int .i64 64, .int .i64 20, .int .i64 1, .int .i64 4, .int .i64 10, .int .i64 5, .int .i64 1, .int .i64 3, .int .i64 2, V233, .int .i64 0, .int .i64 0, .int .i64 3, .int .i64 0, .pointer (some ⟨g240, 0, none⟩), .pointer (some ⟨g243, 0, none⟩), .pointer (some ⟨g246, 0, none⟩), .map (some b224), .pointer (some ⟨g225, 0, none⟩), .pointer (some ⟨g247, 0, none⟩)] 90, var g469 [.int .i64 1] 3, mi b224 (id : Value → Value) [(1, (.agg #[.int .i64 1, .int .i64 2, .int .i64 (-1), .int .i64 50, .int .i64 9, .int .i64 0, .int .i64 1, .int .i64 1, Value.slice none 0 0] : Value))], var g470 [.func (.func 88) #[.pointer (some ⟨g228, 0, none⟩)] #[]] 148, var g235 [.pointer (some ⟨g236, 0, none⟩), .pointer (some ⟨g237, 0, none⟩), .int .i64 8, .int .i64 1, .int .i64 1, .int .i64 4, .int .i64 10, .int .i64 5, .int .i64 1, .int .i64 3, .int .i64 2, .pointer (some ⟨g238, 0, none⟩), .pointer (some ⟨g239, 0, none⟩), .int .i64 8, .int .i64 1] 172, var g237 [.bool true, .int .i64 1, .int .i64 1, .int .i64 32] 296, row V233 136 4 (([] : List (List Value)).map id), var g473 [.pointer (some ⟨g228, 0, none⟩), Value.slice none 0 0, Value.slice none 0 0] 261, var g246 (.int .i64 1 :: .pointer (some ⟨g305, 0, none⟩) :: (rp 15 (Value.pointer none) [])) 210, var g305 [.int .i64 1, .int .i64 2, .int .i64 (-1), .int .i64 50, .int .i64 9, .int .i64 0, .int .i64 1] 66, mi b227 vO ([] : List (Int × (Nat × List (Int × Int)))), var g225 [.map (some b226), .map (some b227)] 195, var g243 [.pointer (some ⟨g244, 0, none⟩), .int .i64 1] 206, var g244 [.map (some b245), .int .i64 1, V456] 294, row V456 66 7 ([[.int .i64 3, .int .i64 1, .int .i64 (-1), .int .i64 50, .int .i64 9, .int .i64 0, .int .i64 3]].map id), mi b245 (Value.int .i64) [(3, 0)], var g239 [.int .i64 1, .int .i64 0, .int .i64 0] 311] (fun v L' => ∃ (V537 : Value) (V519 : Value) (g533 : Nat), v = .int .i64 0 ∧ L' = [var g468 [.pointer (some ⟨g228, 0, none⟩)] 29, var g228 [.pointer (some ⟨g235, 0, none⟩), .int .i64 2, .int .i64 4, .int .i64 1000, .int .u64 1, V230, .int .i64 0, .int .i64 1, .int .i64 1, .int .i64 10, .int .i64 1, .int .i64 64, .int .i64 20, .int .i64 1, .int .i64 4, .int .i64 10, .int .i64 5, .int .i64 1, .int .i64 3, .int .i64 2, V233, .int .i64 0, .int .i64 0, .int .i64 3, .int .i64 0, .pointer (some ⟨g240, 0, none⟩), .pointer (some ⟨g243, 0, none⟩), .pointer (some ⟨g246, 0, none⟩), .map (some b224), .pointer (some ⟨g225, 0, none⟩), .pointer (some ⟨g247, 0, none⟩)] 90, var g469 [.int .i64 1] 3, mi b224 (id : Value → Value) [(3, (.agg #[.int .i64 3, .int .i64 1, .int .i64 (-1), .int .i64 50, .int .i64 9, .int .i64 0, .int .i64 3, .int .i64 1, Value.slice none 0 0] : Value))], var g470 [.func (.func 88) #[.pointer (some ⟨g228, 0, none⟩)] #[]] 148, var g235 [.pointer (some ⟨g236, 0, none⟩), .pointer (some ⟨g237, 0, none⟩), .int .i64 8, .int .i64 1, .int .i64 1, .int .i64 4, .int .i64 10, .int .i64 5, .int .i64 1, .int .i64 3, .int .i64 2, .pointer (some ⟨g238, 0, none⟩), .pointer (some ⟨g239, 0, none⟩), .int .i64 8, .int .i64 1] 172, var g237 [.bool true, .int .i64 1, .int .i64 1, .int .i64 32] 296, row V233 136 4 (([] : List (List Value)).map id), var g473 [.pointer (some ⟨g228, 0, none⟩), V537, V519] 261, var g246 (.int .i64 1 :: .pointer (some ⟨g533, 0, none⟩) :: (rp 15 (Value.pointer none) [])) 210, var g305 [.int .i64 1, .int .i64 2, .int .i64 (-1), .int .i64 50, .int .i64 9, .int .i64 0, .int .i64 1] 66, mi b227 vO ([] : List (Int × (Nat × List (Int × Int)))), var g225 [.map (some b226), .map (some b227)] 195, var g243 [.pointer (some ⟨g244, 0, none⟩), .int .i64 1] 206, var g244 [.map (some b245), .int .i64 1, vcut V456 7 0 (0 : Int).toNat] 294, mi b245 (Value.int .i64) ([] : List (Int × Int)), var g239 [.int .i64 2, .int .i64 0, .int .i64 0] 311, row V537 51 7 ([[.int .i64 4, .int .i64 0, .int .i64 0, .int .i64 1, .int .i64 1, .int .i64 2, .int .i64 0], [.int .i64 3, .int .i64 0, .int .i64 0, .int .i64 3, .int .i64 0, .int .i64 0, .int .i64 50]].map id), row V519 62 23 ([[.int .i64 2, .int .i64 0, .int .i64 0, .int .i64 0, .int .i64 0, .int .i64 0, .int .i64 0, .int .i64 1, .int .i64 0, .int .i64 (-1), .int .i64 1, .int .i64 8, .int .i64 1, .int .i64 1, .int .i64 0, .int .i64 0, .int .i64 0, .int .i64 0, .int .i64 0, .int .i64 0, .int .i64 0, .int .i64 0, .int .i64 0]].map id), var g533 [.int .i64 3, .int .i64 1, .int .i64 (-1), .int .i64 50, .int .i64 9, .int .i64 0, .int .i64 3] 66, row (vcut V456 7 0 (0 : Int).toNat) 66 7 (([] : List (List Value)).map id)]) := by
 refine Tri.en F189 rfl K189 rfl fun w0 => ?_
 refine J.cc 5 rfl ?_
 refine J.dm [(0, false), (1, false), (2, false), (3, false), (4, false), (5, false), (6, false), (7, false), (8, false), (9, true), (10, true), (11, false)] [0, 1, 2, 3] Tryz.mixed (by kernel_rfl) rfl ?_
 refine Mx.q rfl (Qt.lv 0 A29 rfl rfl rfl) rfl ?_
 refine Mx.r 2 rfl ?_
 refine Mx.q rfl (Qt.lv 1 A86 rfl rfl rfl) rfl ?_
 refine Mx.q rfl (Qt.lv 2 A3 rfl rfl rfl) rfl ?_
 refine Mx.q rfl (Qt.lkOk (V := .agg #[.int .i64 1, .int .i64 2, .int .i64 (-1), .int .i64 50, .int .i64 9, .int .i64 0, .int .i64 1, .int .i64 1, Value.slice none 0 0]) (q := true) N86 N3 Y68 rfl rfl (Mc.own 3 b224 rfl rfl) rfl rfl) rfl ?_
 refine Mx.r 3 rfl ?_
 refine Mx.l rfl (Lo.al Y68 rfl) rfl ?_
 rintro _ _ ⟨g474, rfl, rfl⟩
 refine MxK.gp [1, 2, 3, 4] [0, 1, 2, 3] rfl rfl ?_
 refine Mx.l0 rfl (Lo.st 0 Z68 rfl rfl rfl rfl rfl rfl rfl) ?_
 rintro _ _ rfl
 refine MxK.al [1, 2, 3, 4] rfl (by kernel_rfl) ?_
 refine Mx.r 1 rfl ?_
 refine Mx.nil ?_
 refine J.co 12 rfl ?_
 refine O.q (Qt.lv 0 A3 rfl rfl rfl) rfl ?_
 refine O.oo 6 rfl ?_
 refine O.q (Qt.lv 5 A148 rfl rfl rfl) rfl ?_
 refine O.oo 1 rfl ?_
 refine O.q (Qt.lva 0 A68 Z68 rfl rfl rfl) rfl ?_
 refine O.l (Lo.cb C88 rfl rfl (nb299 g228 g473 g235 V230 V233 g240 g243 g246 b224 g225 g247 g236 g237 g238 g239 g305 b227 b226) [2, 6, 7, 8, 9, 10, 11, 4, 12, 13] rfl .nil) rfl ?_
 rintro _ _ ⟨_, ⟨V518, V519, rfl, rfl⟩, rfl⟩
 refine O.oo 4 rfl ?_
 refine O.l (Lo.ca C86 (nb319 g473 g228 V518 V519 g235 V230 V233 g240 g243 g246 b224 g225 g247 g244 b245 V456 g236 g237 g238 g239) [4, 0, 5, 16, 17, 18, 19, 7, 1, 20, 10] rfl rfl .nil) rfl ?_
 rintro _ _ ⟨_, ⟨V537, g533, rfl, rfl⟩, rfl⟩
 refine O.oc 5 rfl ?_
 exact J.r1 [19, 1, 20, 6, 21, 7, 12, 13, 0, 2, 14, 15, 16, 3, 4, 5, 8, 9, 17, 10, 11] rfl rfl rfl ⟨V537, V519, g533, rfl, rfl⟩

set_option maxRecDepth 100000 in
theorem nb321 (g228 : Nat) (g468 : Nat) (g469 : Nat) (g470 : Nat) (g235 : Nat) (V230 : Value) (V233 : Value) (g240 : Nat) (g243 : Nat) (g246 : Nat) (b224 : Nat) (g225 : Nat) (g247 : Nat) (g236 : Nat) (g237 : Nat) (g238 : Nat) (g239 : Nat) (g305 : Nat) (b227 : Nat) (b226 : Nat) (g244 : Nat) (b245 : Nat) (V456 : Value) : Tri Tryz.prog 76 #[.pointer (some ⟨g228, 0, none⟩), .func (.func 189) #[] #[.pointer (some ⟨g468, 0, none⟩), .pointer (some ⟨g469, 0, none⟩), .pointer (some ⟨g470, 0, none⟩)]] [] [var g228 [.pointer (some ⟨g235, 0, none⟩), .int .i64 2, .int .i64 4, .int .i64 1000, .int .u64 1, V230, .int .i64 0, .int .i64 1, .int .i64 1, .int .i64 10, .int .i64 1, .int .i64 64, .int .i64 20, .int .i64 1, .int .i64 4, .int .i64 10, .int .i64 5, .int .i64 1, .int .i64 3, .int .i64 2, V233, .int .i64 0, .int .i64 0, .int .i64 3, .int .i64 0, .pointer (some ⟨g240, 0, none⟩), .pointer (some ⟨g243, 0, none⟩), .pointer (some ⟨g246, 0, none⟩), .map (some b224), .pointer (some ⟨g225, 0, none⟩), .pointer (some ⟨g247, 0, none⟩)] 90, var g468 [.pointer (some ⟨g228, 0, none⟩)] 29, var g469 [.int .i64 1] 3, mi b224 (id : Value → Value) [(1, (.agg #[.int .i64 1, .int .i64 2, .int .i64 (-1), .int .i64 50, .int .i64 9, .int .i64 0, .int .i64 1, .int .i64 1, Value.slice none 0 0] : Value))], var g470 [.func (.func 88) #[.pointer (some ⟨g228, 0, none⟩)] #[]] 148, var g235 [.pointer (some ⟨g236, 0, none⟩), .pointer (some ⟨g237, 0, none⟩), .int .i64 8, .int .i64 1, .int .i64 1, .int .i64 4, .int .i64 10, .int .i64 5, .int .i64 1, .int .i64 3, .int .i64 2, .pointer (some ⟨g238, 0, none⟩), .pointer (some ⟨g239, 0, none⟩), .int .i64 8, .int .i64 1] 172, var g237 [.bool true, .int .i64 1, .int .i64 1, .int .i64 32] 296, row V233 136 4 (([] : List (List Value)).map id), var g246 (.int .i64 1 :: .pointer (some ⟨g305, 0, none⟩) :: (rp 15 (Value.pointer none) [])) 210, var g305 [.int .i64 1, .int .i64 2, .int .i64 (-1), .int .i64 50, .int .i64 9, .int .i64 0, .int .i64 1] 66, mi b227 vO ([] : List (Int × (Nat × List (Int × Int)))), var g225 [.map (some b226), .map (some b227)] 195, var g243 [.pointer (some ⟨g244, 0, none⟩), .int .i64 1] 206, var g244 [.map (some b245), .int .i64 1, V456] 294, row V456 66 7 ([[.int .i64 3, .int .i64 1, .int .i64 (-1), .int .i64 50, .int .i64 9, .int .i64 0, .int .i64 3]].map id), mi b245 (Value.int .i64) [(3, 0)], var g239 [.int .i64 1, .int .i64 0, .int .i64 0] 311] (fun v L' => ∃ (V537 : Value) (V519 : Value) (g533 : Nat), v = .tuple #[.agg #[V537, V519], .int .i64 0] ∧ L' = [var g228 [.pointer (some ⟨g235, 0, none⟩), .int .i64 2, .int .i64 4, .int .i64 1000, .int .u64 1, V230, .int .i64 0, .int .i64 1, .int .i64 1, .int .i64 10, .int .i64 1, .int .i64 64, .int .i64 20, .int .i64 1, .int .i64 4, .int .i64 10, .int .i64 5, .int .i64 1, .int .i64 3, .int .i64 2, V233, .int .i64 0, .int .i64 0, .int .i64 3, .int .i64 0, .pointer (some ⟨g240, 0, none⟩), .pointer (some ⟨g243, 0, none⟩), .pointer (some ⟨g246, 0, none⟩), .map (some b224), .pointer (some ⟨g225, 0, none⟩), .pointer (some ⟨g247, 0, none⟩)] 90, var g468 [.pointer (some ⟨g228, 0, none⟩)] 29, var g469 [.int .i64 1] 3, mi b224 (id : Value → Value) [(3, (.agg #[.int .i64 3, .int .i64 1, .int .i64 (-1), .int .i64 50, .int .i64 9, .int .i64 0, .int .i64 3, .int .i64 1, Value.slice none 0 0] : Value))], var g470 [.func (.func 88) #[.pointer (some ⟨g228, 0, none⟩)] #[]] 148, var g235 [.pointer (some ⟨g236, 0, none⟩), .pointer (some ⟨g237, 0, none⟩), .int .i64 8, .int .i64 1, .int .i64 1, .int .i64 4, .int .i64 10, .int .i64 5, .int .i64 1, .int .i64 3, .int .i64 2, .pointer (some ⟨g238, 0, none⟩), .pointer (some ⟨g239, 0, none⟩), .int .i64 8, .int .i64 1] 172, var g237 [.bool true, .int .i64 1, .int .i64 1, .int .i64 32] 296, row V233 136 4 (([] : List (List Value)).map id), var g246 (.int .i64 1 :: .pointer (some ⟨g533, 0, none⟩) :: (rp 15 (Value.pointer none) [])) 210, var g305 [.int .i64 1, .int .i64 2, .int .i64 (-1), .int .i64 50, .int .i64 9, .int .i64 0, .int .i64 1] 66, mi b227 vO ([] : List (Int × (Nat × List (Int × Int)))), var g225 [.map (some b226), .map (some b227)] 195, var g243 [.pointer (some ⟨g244, 0, none⟩), .int .i64 1] 206, var g244 [.map (some b245), .int .i64 1, vcut V456 7 0 (0 : Int).toNat] 294, mi b245 (Value.int .i64) ([] : List (Int × Int)), var g239 [.int .i64 2, .int .i64 0, .int .i64 0] 311, row V537 51 7 ([[.int .i64 4, .int .i64 0, .int .i64 0, .int .i64 1, .int .i64 1, .int .i64 2, .int .i64 0], [.int .i64 3, .int .i64 0, .int .i64 0, .int .i64 3, .int .i64 0, .int .i64 0, .int .i64 50]].map id), row V519 62 23 ([[.int .i64 2, .int .i64 0, .int .i64 0, .int .i64 0, .int .i64 0, .int .i64 0, .int .i64 0, .int .i64 1, .int .i64 0, .int .i64 (-1), .int .i64 1, .int .i64 8, .int .i64 1, .int .i64 1, .int .i64 0, .int .i64 0, .int .i64 0, .int .i64 0, .int .i64 0, .int .i64 0, .int .i64 0, .int .i64 0, .int .i64 0]].map id), var g533 [.int .i64 3, .int .i64 1, .int .i64 (-1), .int .i64 50, .int .i64 9, .int .i64 0, .int .i64 3] 66, row (vcut V456 7 0 (0 : Int).toNat) 66 7 (([] : List (List Value)).map id)]) := by
 refine Tri.en F76 rfl K76 rfl fun w0 => ?_
 refine J.co 2 rfl ?_
 refine O.l (Lo.al Y36 rfl) rfl ?_
 rintro _ _ ⟨g472, rfl, rfl⟩
 refine O.oo 6 rfl ?_
 refine O.l (Lo.ca C39 (nb283 g228 g235 V230 V233 g240 g243 g246 b224 g225 g247) [1] rfl rfl .nil) rfl ?_
 rintro _ _ ⟨_, ⟨rfl, rfl⟩, rfl⟩
 refine O.oo 7 rfl ?_
 refine O.p (Pu.build [(0, .pointer (some ⟨g228, 0, none⟩))] [.pointer (some ⟨g228, 0, none⟩), Value.slice none 0 0, Value.slice none 0 0] #[(0, 1), (1, 2)] U261 Y261 (places261 N261) rfl (by kernel_rfl)) rfl ?_
 refine O.l (Lo.bx rfl rfl) rfl ?_
 rintro _ _ ⟨g473, rfl, rfl⟩
 refine O.oo 7 rfl ?_
 refine O.l (Lo.cv C189 rfl rfl (nb320 g473 g468 g469 g470 g228 g235 V230 V233 g240 g243 g246 b224 g225 g247 g236 g237 g238 g239 g305 b227 b226 g244 b245 V456) [3, 1, 4, 5, 6, 7, 8, 9, 0, 10, 11, 12, 13, 14, 15, 16, 17, 18] rfl .nil) rfl ?_
 rintro _ _ ⟨_, ⟨V537, V519, g533, rfl, rfl⟩, rfl⟩
 refine O.oo 14 rfl ?_
 refine O.q (Qt.lva 8 A36 Z36 rfl rfl rfl) rfl ?_
 refine O.one (Src.row 17 rfl) (fun hV543 => ?_)
 refine O.one (Src.row 18 rfl) (fun hV544 => ?_)
 refine O.l0 (Lo.st 21 Z36 rfl rfl rfl rfl rfl (by simp only [List.all_cons, List.all_nil, Bool.and_true, hV543, hV544] <;> rfl) rfl) ?_
 rintro _ _ rfl
 refine O.oc 2 rfl ?_
 exact J.rn [_, _] [1, 0, 2, 3, 4, 5, 6, 7, 9, 10, 11, 12, 13, 14, 15, 16, 17, 18, 19, 20] rfl ⟨⟨_, _, 0, 0, _, rfl, Cel.var 21 rfl, rfl, Cut.agg _ A36 Z36 rfl rfl⟩, rfl, trivial⟩ rfl ⟨V537, V519, g533, rfl, rfl⟩

set_option maxRecDepth 100000 in
theorem nb322 (g228 : Nat) (g235 : Nat) (V230 : Value) (V233 : Value) (g240 : Nat) (g243 : Nat) (g246 : Nat) (b224 : Nat) (g225 : Nat) (g247 : Nat) (g236 : Nat) (g237 : Nat) (g238 : Nat) (g239 : Nat) (g305 : Nat) (b227 : Nat) (b226 : Nat) (g244 : Nat) (b245 : Nat) (V456 : Value) : Tri Tryz.prog 87 #[.pointer (some ⟨g228, 0, none⟩), .int .i64 1, .func (.func 88) #[.pointer (some ⟨g228, 0, none⟩)] #[]] [] [var g228 [.pointer (some ⟨g235, 0, none⟩), .int .i64 2, .int .i64 4, .int .i64 1000, .int .u64 1, V230, .int .i64 0, .int .i64 1, .int .i64 1, .int .i64 10, .int .i64 1, .int .i64 64, .int .i64 20, .int .i64 1, .int .i64 4, .int .i64 10, .int .i64 5, .int .i64 1, .int .i64 3, .int .i64 2, V233, .int .i64 0, .int .i64 0, .int .i64 3, .int .i64 0, .pointer (some ⟨g240, 0, none⟩), .pointer (some ⟨g243, 0, none⟩), .pointer (some ⟨g246, 0, none⟩), .map (some b224), .pointer (some ⟨g225, 0, none⟩), .pointer (some ⟨g247, 0, none⟩)] 90, mi b224 (id : Value → Value) [(1, (.agg #[.int .i64 1, .int .i64 2, .int .i64 (-1), .int .i64 50, .int .i64 9, .int .i64 0, .int .i64 1, .int .i64 1, Value.slice none 0 0] : Value))], var g235 [.pointer (some ⟨g236, 0, none⟩), .pointer (some ⟨g237, 0, none⟩), .int .i64 8, .int .i64 1, .int .i64 1, .int .i64 4, .int .i64 10, .int .i64 5, .int .i64 1, .int .i64 3, .int .i64 2, .pointer (some ⟨g238, 0, none⟩), .pointer (some ⟨g239, 0, none⟩), .int .i64 8, .int .i64 1] 172, var g237 [.bool true, .int .i64 1, .int .i64 1, .int .i64 32] 296, row V233 136 4 (([] : List (List Value)).map id), var g246 (.int .i64 1 :: .pointer (some ⟨g305, 0, none⟩) :: (rp 15 (Value.pointer none) [])) 210, var g305 [.int .i64 1, .int .i64 2, .int .i64 (-1), .int .i64 50, .int .i64 9, .int .i64 0, .int .i64 1] 66, mi b227 vO ([] : List (Int × (Nat × List (Int × Int)))), var g225 [.map (some b226), .map (some b227)] 195, var g243 [.pointer (some ⟨g244, 0, none⟩), .int .i64 1] 206, var g244 [.map (some b245), .int .i64 1, V456] 294, row V456 66 7 ([[.int .i64 3, .int .i64 1, .int .i64 (-1), .int .i64 50, .int .i64 9, .int .i64 0, .int .i64 3]].map id), mi b245 (Value.int .i64) [(3, 0)], var g239 [.int .i64 1, .int .i64 0, .int .i64 0] 311] (fun v L' => ∃ (V537 : Value) (V519 : Value) (g533 : Nat), v = .tuple #[.agg #[V537, V519], .int .i64 0] ∧ L' = [var g228 [.pointer (some ⟨g235, 0, none⟩), .int .i64 2, .int .i64 4, .int .i64 1000, .int .u64 1, V230, .int .i64 0, .int .i64 1, .int .i64 1, .int .i64 10, .int .i64 1, .int .i64 64, .int .i64 20, .int .i64 1, .int .i64 4, .int .i64 10, .int .i64 5, .int .i64 1, .int .i64 3, .int .i64 2, V233, .int .i64 0, .int .i64 0, .int .i64 3, .int .i64 0, .pointer (some ⟨g240, 0, none⟩), .pointer (some ⟨g243, 0, none⟩), .pointer (some ⟨g246, 0, none⟩), .map (some b224), .pointer (some ⟨g225, 0, none⟩), .pointer (some ⟨g247, 0, none⟩)] 90, mi b224 (id : Value → Value) [(3, (.agg #[.int .i64 3, .int .i64 1, .int .i64 (-1), .int .i64 50, .int .i64 9, .int .i64 0, .int .i64 3, .int .i64 1, Value.slice none 0 0] : Value))], var g235 [.pointer (some ⟨g236, 0, none⟩), .pointer (some ⟨g237, 0, none⟩), .int .i64 8, .int .i64 1, .int .i64 1, .int .i64 4, .int .i64 10, .int .i64 5, .int .i64 1, .int .i64 3, .int .i64 2, .pointer (some ⟨g238, 0, none⟩), .pointer (some ⟨g239, 0, none⟩), .int .i64 8, .int .i64 1] 172, var g237 [.bool true, .int .i64 1, .int .i64 1, .int .i64 32] 296, row V233 136 4 (([] : List (List Value)).map id), var g246 (.int .i64 1 :: .pointer (some ⟨g533, 0, none⟩) :: (rp 15 (Value.pointer none) [])) 210, var g305 [.int .i64 1, .int .i64 2, .int .i64 (-1), .int .i64 50, .int .i64 9, .int .i64 0, .int .i64 1] 66, mi b227 vO ([] : List (Int × (Nat × List (Int × Int)))), var g225 [.map (some b226), .map (some b227)] 195, var g243 [.pointer (some ⟨g244, 0, none⟩), .int .i64 1] 206, var g244 [.map (some b245), .int .i64 1, vcut V456 7 0 (0 : Int).toNat] 294, mi b245 (Value.int .i64) ([] : List (Int × Int)), var g239 [.int .i64 2, .int .i64 0, .int .i64 0] 311, row V537 51 7 ([[.int .i64 4, .int .i64 0, .int .i64 0, .int .i64 1, .int .i64 1, .int .i64 2, .int .i64 0], [.int .i64 3, .int .i64 0, .int .i64 0, .int .i64 3, .int .i64 0, .int .i64 0, .int .i64 50]].map id), row V519 62 23 ([[.int .i64 2, .int .i64 0, .int .i64 0, .int .i64 0, .int .i64 0, .int .i64 0, .int .i64 0, .int .i64 1, .int .i64 0, .int .i64 (-1), .int .i64 1, .int .i64 8, .int .i64 1, .int .i64 1, .int .i64 0, .int .i64 0, .int .i64 0, .int .i64 0, .int .i64 0, .int .i64 0, .int .i64 0, .int .i64 0, .int .i64 0]].map id), var g533 [.int .i64 3, .int .i64 1, .int .i64 (-1), .int .i64 50, .int .i64 9, .int .i64 0, .int .i64 3] 66, row (vcut V456 7 0 (0 : Int).toNat) 66 7 (([] : List (List Value)).map id)]) := by
 refine Tri.en F87 rfl K87 rfl fun w0 => ?_
 refine J.co 2 rfl ?_
 refine O.l (Lo.bx rfl rfl) rfl ?_
 rintro _ _ ⟨g468, rfl, rfl⟩
 refine O.l (Lo.bx rfl rfl) rfl ?_
 rintro _ _ ⟨g469, rfl, rfl⟩
 refine O.l (Lo.bx rfl rfl) rfl ?_
 rintro _ _ ⟨g470, rfl, rfl⟩
 refine O.l (Lo.al Y36 rfl) rfl ?_
 rintro _ _ ⟨g471, rfl, rfl⟩
 refine O.oo 4 rfl ?_
 refine O.q (Qt.lv 3 A29 rfl rfl rfl) rfl ?_
 refine O.p (Pu.makeFunc [.pointer (some ⟨g468, 0, none⟩), .pointer (some ⟨g469, 0, none⟩), .pointer (some ⟨g470, 0, none⟩)] rfl) rfl ?_
 refine O.l (Lo.ca C76 (nb321 g228 g468 g469 g470 g235 V230 V233 g240 g243 g246 b224 g225 g247 g236 g237 g238 g239 g305 b227 b226 g244 b245 V456) [4, 3, 2, 5, 1, 6, 7, 8, 9, 10, 11, 12, 13, 14, 15, 16, 17] rfl rfl .nil) rfl ?_
 rintro _ _ ⟨_, ⟨V537, V519, g533, rfl, rfl⟩, rfl⟩
 refine O.oo 2 rfl ?_
 refine O.one (Src.row 16 rfl) (fun hV545 => ?_)
 refine O.one (Src.row 17 rfl) (fun hV546 => ?_)
 refine O.l0 (Lo.st 20 Z36 rfl rfl rfl rfl rfl (by simp only [List.all_cons, List.all_nil, Bool.and_true, hV545, hV546] <;> rfl) rfl) ?_
 rintro _ _ rfl
 refine O.oc 2 rfl ?_
 exact J.rn [_, _] [0, 3, 5, 6, 7, 8, 9, 10, 11, 12, 13, 14, 15, 16, 17, 18, 19] rfl ⟨⟨_, _, 0, 0, _, rfl, Cel.var 20 rfl, rfl, Cut.agg _ A36 Z36 rfl rfl⟩, rfl, trivial⟩ rfl ⟨V537, V519, g533, rfl, rfl⟩

set_option maxRecDepth 100000 in
theorem nb323 (g228 : Nat) (g235 : Nat) (V230 : Value) (V233 : Value) (g240 : Nat) (g243 : Nat) (g246 : Nat) (b224 : Nat) (g225 : Nat) (g247 : Nat) (g236 : Nat) (g237 : Nat) (g238 : Nat) (g239 : Nat) (g305 : Nat) (b227 : Nat) (b226 : Nat) (g244 : Nat) (b245 : Nat) (V456 : Value) : Tri Tryz.prog 33 #[.pointer (some ⟨g228, 0, none⟩), .int .i64 1] [] [var g228 [.pointer (some ⟨g235, 0, none⟩), .int .i64 2, .int .i64 4, .int .i64 1000, .int .u64 1, V230, .int .i64 0, .int .i64 1, .int .i64 1, .int .i64 10, .int .i64 1, .int .i64 64, .int .i64 20, .int .i64 1, .int .i64 4, .int .i64 10, .int .i64 5, .int .i64 1, .int .i64 3, .int .i64 2, V233, .int .i64 0, .int .i64 0, .int .i64 3, .int .i64 0, .pointer (some ⟨g240, 0, none⟩), .pointer (some ⟨g243, 0, none⟩), .pointer (some ⟨g246, 0, none⟩), .map (some b224), .pointer (some ⟨g225, 0, none⟩), .pointer (some ⟨g247, 0, none⟩)] 90, mi b224 (id : Value → Value) [(1, (.agg #[.int .i64 1, .int .i64 2, .int .i64 (-1), .int .i64 50, .int .i64 9, .int .i64 0, .int .i64 1, .int .i64 1, Value.slice none 0 0] : Value))], var g235 [.pointer (some ⟨g236, 0, none⟩), .pointer (some ⟨g237, 0, none⟩), .int .i64 8, .int .i64 1, .int .i64 1, .int .i64 4, .int .i64 10, .int .i64 5, .int .i64 1, .int .i64 3, .int .i64 2, .pointer (some ⟨g238, 0, none⟩), .pointer (some ⟨g239, 0, none⟩), .int .i64 8, .int .i64 1] 172, var g237 [.bool true, .int .i64 1, .int .i64 1, .int .i64 32] 296, row V233 136 4 (([] : List (List Value)).map id), var g246 (.int .i64 1 :: .pointer (some ⟨g305, 0, none⟩) :: (rp 15 (Value.pointer none) [])) 210, var g305 [.int .i64 1, .int .i64 2, .int .i64 (-1), .int .i64 50, .int .i64 9, .int .i64 0, .int .i64 1] 66, mi b227 vO ([] : List (Int × (Nat × List (Int × Int)))), var g225 [.map (some b226), .map (some b227)] 195, var g243 [.pointer (some ⟨g244, 0, none⟩), .int .i64 1] 206, var g244 [.map (some b245), .int .i64 1, V456] 294, row V456 66 7 ([[.int .i64 3, .int .i64 1, .int .i64 (-1), .int .i64 50, .int .i64 9, .int .i64 0, .int .i64 3]].map id), mi b245 (Value.int .i64) [(3, 0)], var g239 [.int .i64 1, .int .i64 0, .int .i64 0] 311] (fun v L' => ∃ (V537 : Value) (V519 : Value) (g533 : Nat), v = .tuple #[.agg #[V537, V519], .int .i64 0] ∧ L' = [var g228 [.pointer (some ⟨g235, 0, none⟩), .int .i64 2, .int .i64 4, .int .i64 1000, .int .u64 1, V230, .int .i64 0, .int .i64 1, .int .i64 1, .int .i64 10, .int .i64 1, .int .i64 64, .int .i64 20, .int .i64 1, .int .i64 4, .int .i64 10, .int .i64 5, .int .i64 1, .int .i64 3, .int .i64 2, V233, .int .i64 0, .int .i64 0, .int .i64 3, .int .i64 0, .pointer (some ⟨g240, 0, none⟩), .pointer (some ⟨g243, 0, none⟩), .pointer (some ⟨g246, 0, none⟩), .map (some b224), .pointer (some ⟨g225, 0, none⟩), .pointer (some ⟨g247, 0, none⟩)] 90, mi b224 (id : Value → Value) [(3, (.agg #[.int .i64 3, .int .i64 1, .int .i64 (-1), .int .i64 50, .int .i64 9, .int .i64 0, .int .i64 3, .int .i64 1, Value.slice none 0 0] : Value))], var g235 [.pointer (some ⟨g236, 0, none⟩), .pointer (some ⟨g237, 0, none⟩), .int .i64 8, .int .i64 1, .int .i64 1, .int .i64 4, .int .i64 10, .int .i64 5, .int .i64 1, .int .i64 3, .int .i64 2, .pointer (some ⟨g238, 0, none⟩), .pointer (some ⟨g239, 0, none⟩), .int .i64 8, .int .i64 1] 172, var g237 [.bool true, .int .i64 1, .int .i64 1, .int .i64 32] 296, row V233 136 4 (([] : List (List Value)).map id), var g246 (.int .i64 1 :: .pointer (some ⟨g533, 0, none⟩) :: (rp 15 (Value.pointer none) [])) 210, var g305 [.int .i64 1, .int .i64 2, .int .i64 (-1), .int .i64 50, .int .i64 9, .int .i64 0, .int .i64 1] 66, mi b227 vO ([] : List (Int × (Nat × List (Int × Int)))), var g225 [.map (some b226), .map (some b227)] 195, var g243 [.pointer (some ⟨g244, 0, none⟩), .int .i64 1] 206, var g244 [.map (some b245), .int .i64 1, vcut V456 7 0 (0 : Int).toNat] 294, mi b245 (Value.int .i64) ([] : List (Int × Int)), var g239 [.int .i64 2, .int .i64 0, .int .i64 0] 311, row V537 51 7 ([[.int .i64 4, .int .i64 0, .int .i64 0, .int .i64 1, .int .i64 1, .int .i64 2, .int .i64 0], [.int .i64 3, .int .i64 0, .int .i64 0, .int .i64 3, .int .i64 0, .int .i64 0, .int .i64 50]].map id), row V519 62 23 ([[.int .i64 2, .int .i64 0, .int .i64 0, .int .i64 0, .int .i64 0, .int .i64 0, .int .i64 0, .int .i64 1, .int .i64 0, .int .i64 (-1), .int .i64 1, .int .i64 8, .int .i64 1, .int .i64 1, .int .i64 0, .int .i64 0, .int .i64 0, .int .i64 0, .int .i64 0, .int .i64 0, .int .i64 0, .int .i64 0, .int .i64 0]].map id), var g533 [.int .i64 3, .int .i64 1, .int .i64 (-1), .int .i64 50, .int .i64 9, .int .i64 0, .int .i64 3] 66, row (vcut V456 7 0 (0 : Int).toNat) 66 7 (([] : List (List Value)).map id)]) := by
 refine Tri.en F33 rfl K33 rfl fun w0 => ?_
 refine J.co 2 rfl ?_
 refine O.l (Lo.al Y36 rfl) rfl ?_
 rintro _ _ ⟨g467, rfl, rfl⟩
 refine O.oo 7 rfl ?_
 refine O.p (Pu.makeFuncB [.pointer (some ⟨g228, 0, none⟩)] [] rfl rfl) rfl ?_
 refine O.l (Lo.ca C87 (nb322 g228 g235 V230 V233 g240 g243 g246 b224 g225 g247 g236 g237 g238 g239 g305 b227 b226 g244 b245 V456) [1, 2, 3, 4, 5, 6, 7, 8, 9, 10, 11, 12, 13, 14] rfl rfl .nil) rfl ?_
 rintro _ _ ⟨_, ⟨V537, V519, g533, rfl, rfl⟩, rfl⟩
 refine O.oo 2 rfl ?_
 refine O.one (Src.row 13 rfl) (fun hV547 => ?_)
 refine O.one (Src.row 14 rfl) (fun hV548 => ?_)
 refine O.l0 (Lo.st 17 Z36 rfl rfl rfl rfl rfl (by simp only [List.all_cons, List.all_nil, Bool.and_true, hV547, hV548] <;> rfl) rfl) ?_
 rintro _ _ rfl
 refine O.oc 2 rfl ?_
 exact J.rn [_, _] [0, 1, 2, 3, 4, 5, 6, 7, 8, 9, 10, 11, 12, 13, 14, 15, 16] rfl ⟨⟨_, _, 0, 0, _, rfl, Cel.var 17 rfl, rfl, Cut.agg _ A36 Z36 rfl rfl⟩, rfl, trivial⟩ rfl ⟨V537, V519, g533, rfl, rfl⟩

set_option maxRecDepth 100000 in
theorem nb324 (g228 : Nat) (g235 : Nat) (V230 : Value) (V233 : Value) (g240 : Nat) (g243 : Nat) (g246 : Nat) (b224 : Nat) (g225 : Nat) (g247 : Nat) (g533 : Nat) : Tri Tryz.prog 14 #[.pointer (some ⟨g228, 0, none⟩)] [] [var g228 [.pointer (some ⟨g235, 0, none⟩), .int .i64 2, .int .i64 4, .int .i64 1000, .int .u64 1, V230, .int .i64 0, .int .i64 1, .int .i64 1, .int .i64 10, .int .i64 1, .int .i64 64, .int .i64 20, .int .i64 1, .int .i64 4, .int .i64 10, .int .i64 5, .int .i64 1, .int .i64 3, .int .i64 2, V233, .int .i64 0, .int .i64 0, .int .i64 3, .int .i64 0, .pointer (some ⟨g240, 0, none⟩), .pointer (some ⟨g243, 0, none⟩), .pointer (some ⟨g246, 0, none⟩), .map (some b224), .pointer (some ⟨g225, 0, none⟩), .pointer (some ⟨g247, 0, none⟩)] 90, var g246 (.int .i64 1 :: .pointer (some ⟨g533, 0, none⟩) :: (rp 15 (Value.pointer none) [])) 210, var g533 [.int .i64 3, .int .i64 1, .int .i64 (-1), .int .i64 50, .int .i64 9, .int .i64 0, .int .i64 3] 66, mi b224 (id : Value → Value) [(3, (.agg #[.int .i64 3, .int .i64 1, .int .i64 (-1), .int .i64 50, .int .i64 9, .int .i64 0, .int .i64 3, .int .i64 1, Value.slice none 0 0] : Value))]] (fun v L' => ∃ (V559 : Value) (V556 : Value), v = V559 ∧ L' = [var g228 [.pointer (some ⟨g235, 0, none⟩), .int .i64 2, .int .i64 4, .int .i64 1000, .int .u64 1, V230, .int .i64 0, .int .i64 1, .int .i64 1, .int .i64 10, .int .i64 1, .int .i64 64, .int .i64 20, .int .i64 1, .int .i64 4, .int .i64 10, .int .i64 5, .int .i64 1, .int .i64 3, .int .i64 2, V233, .int .i64 0, .int .i64 0, .int .i64 3, .int .i64 0, .pointer (some ⟨g240, 0, none⟩), .pointer (some ⟨g243, 0, none⟩), .pointer (some ⟨g246, 0, none⟩), .map (some b224), .pointer (some ⟨g225, 0, none⟩), .pointer (some ⟨g247, 0, none⟩)] 90, var g246 (.int .i64 1 :: .pointer (some ⟨g533, 0, none⟩) :: (rp 15 (Value.pointer none) [])) 210, var g533 [.int .i64 3, .int .i64 1, .int .i64 (-1), .int .i64 50, .int .i64 9, .int .i64 0, .int .i64 3] 66, mi b224 (id : Value → Value) [(3, (.agg #[.int .i64 3, .int .i64 1, .int .i64 (-1), .int .i64 50, .int .i64 9, .int .i64 0, .int .i64 3, .int .i64 1, Value.slice none 0 0] : Value))], row V559 68 9 ([[.int .i64 3, .int .i64 1, .int .i64 (-1), .int .i64 50, .int .i64 9, .int .i64 0, .int .i64 3, .int .i64 1, V556]].map id), row V556 3 1 (([] : List (List Value)).map id)]) := by
 refine Tri.en F14 rfl K14 rfl fun w0 => ?_
 refine J.co 8 rfl ?_
 refine O.l (Lo.ca C39 (nb283 g228 g235 V230 V233 g240 g243 g246 b224 g225 g247) [0] rfl rfl .nil) rfl ?_
 rintro _ _ ⟨_, ⟨rfl, rfl⟩, rfl⟩
 refine O.oo 14 rfl ?_
 refine O.q (Qt.lv 0 A85 rfl rfl rfl) rfl ?_
 refine O.l (Lo.ca C41 (nb317 g246 g533) [1, 2] rfl rfl .nil) rfl ?_
 rintro V552 _ ⟨_, ⟨_, rfl, rfl⟩, rfl⟩
 refine O.q (Qt.lenM U52 rfl (Src.row 2 rfl)) rfl ?_
 refine O.oc 3 rfl ?_
 refine J.un ?_
 refine J.co 11 rfl ?_
 refine O.q (Qt.ix U52 Z66 rfl (Src.row 2 rfl) (j := 0) (a := [.int .i64 3, .int .i64 1, .int .i64 (-1), .int .i64 50, .int .i64 9, .int .i64 0, .int .i64 3]) rfl rfl rfl) rfl ?_
 refine O.q (Qt.lea A66 Z66 (Src.row 2 rfl) (j := 0) (a := [.int .i64 3, .int .i64 1, .int .i64 (-1), .int .i64 50, .int .i64 9, .int .i64 0, .int .i64 3]) rfl 0 rfl (by omega) rfl) rfl ?_
 refine O.l (Lo.al Y66 rfl) rfl ?_
 rintro _ _ ⟨g553, rfl, rfl⟩
 refine O.l0 (Lo.st 0 Z66 rfl rfl rfl rfl rfl rfl rfl) ?_
 rintro _ _ rfl
 refine O.oc 2 rfl ?_
 refine J.dm [(0, false), (1, false), (2, false), (3, false), (4, false), (5, false), (6, false), (7, true), (8, true)] [0, 4, 5] Tryz.mixed (by kernel_rfl) rfl ?_
 refine Mx.r 3 rfl ?_
 refine Mx.q rfl (Qt.lv 1 A86 rfl rfl rfl) rfl ?_
 refine Mx.r 1 rfl ?_
 refine Mx.q rfl (Qt.lv 0 A3 rfl rfl rfl) rfl ?_
 refine Mx.q rfl (Qt.lkI (V := .agg #[.int .i64 3, .int .i64 1, .int .i64 (-1), .int .i64 50, .int .i64 9, .int .i64 0, .int .i64 3, .int .i64 1, Value.slice none 0 0]) N86 N3 Y68 rfl rfl (Mc.own 2 b224 rfl rfl) rfl) rfl ?_
 refine Mx.l rfl (Lo.al Y68 rfl) rfl ?_
 rintro _ _ ⟨g554, rfl, rfl⟩
 refine MxK.gp [1, 5, 6] [0, 1, 2] rfl rfl ?_
 refine Mx.l0 rfl (Lo.st 0 Z68 rfl rfl rfl rfl rfl rfl rfl) ?_
 rintro _ _ rfl
 refine MxK.al [1, 5, 6] rfl (by kernel_rfl) ?_
 refine Mx.nil ?_
 refine J.co 2 rfl ?_
 refine O.l (Lo.buildE id U60 Z3) rfl ?_
 rintro V555 _ rfl
 refine O.oo 1 rfl ?_
 refine O.q (Qt.lv 1 A60 rfl rfl rfl) rfl ?_
 refine O.nr 3 1 (([] : List (List Value)).map id) rfl ?_
 refine O.l (Lo.am 1 N60 info3 rfl rfl rfl rfl rfl (Src.row 0 rfl) (id_one rfl) (Nat.le_of_ble_eq_true rfl) (Nat.le_of_ble_eq_true rfl)) rfl ?_
 rintro V556 _ rfl
 refine O.oo 1 rfl ?_
 refine O.one (Src.row 1 rfl) (fun hV557 => ?_)
 refine O.l0 (Lo.so 2 Z60 hV557 rfl rfl rfl rfl) ?_
 rintro _ _ rfl
 refine O.oo 3 rfl ?_
 refine O.q (Qt.lva 2 A68 Z68 rfl rfl rfl) rfl ?_
 refine O.l (Lo.bm id [[.int .i64 3, .int .i64 1, .int .i64 (-1), .int .i64 50, .int .i64 9, .int .i64 0, .int .i64 3, .int .i64 1, V556]] U57 Z68 Y68 rfl rfl rfl (by cases V556 <;> first | (simp [Value.oneCell'] at hV557; done) | (kernel_rfl; done)) rfl rfl) rfl ?_
 rintro V558 _ rfl
 refine O.sel [0, 2, 3, 4, 5, 6, 7, 8, 9] _ (by decide) rfl ?_
 refine O.nr 68 9 (([] : List (List Value)).map id) rfl ?_
 refine O.l (Lo.am 0 N57 info68 rfl rfl rfl rfl rfl (Src.row 1 rfl) (id_one (by simp only [List.all_cons, List.all_nil, Bool.and_true, hV557] <;> rfl)) (Nat.le_of_ble_eq_true rfl) (Nat.le_of_ble_eq_true rfl)) rfl ?_
 rintro V559 _ rfl
 refine O.oo 4 rfl ?_
 refine O.p (Pu.add' rfl rfl (by decide)) rfl ?_
 refine O.oc 2 rfl ?_
 refine J.again ?_
 refine J.cc 12 rfl ?_
 exact J.r1 [8, 5, 6, 9, 0, 2] rfl rfl rfl ⟨V559, V556, rfl, rfl⟩

set_option maxRecDepth 100000 in
theorem law35_awake : Tri Tryz.prog 10 #[] [] [] (fun v L' => v = .bool true ∧ L' = []) := by
 refine Tri.en F10 rfl K10 rfl fun w0 => ?_
 refine J.co 6 rfl ?_
 refine O.l (Lo.ca C31 nb63 [] rfl rfl .nil) rfl ?_
 rintro _ _ ⟨_, ⟨V167, rfl, rfl⟩, rfl⟩
 refine O.l (Lo.al Y25 rfl) rfl ?_
 rintro _ _ ⟨g169, rfl, rfl⟩
 refine O.one (Src.row 1 rfl) (fun hV170 => ?_)
 refine O.l0 (Lo.st 0 Z25 rfl rfl rfl rfl rfl (by simp only [List.all_cons, List.all_nil, Bool.and_true, hV170] <;> rfl) rfl) ?_
 rintro _ _ rfl
 refine O.oo 4 rfl ?_
 refine O.q (Qt.lv 0 A23 rfl rfl rfl) rfl ?_
 refine O.q (Qt.ix U23 Z56 rfl (Src.row 1 rfl) (j := 0) (a := [.int .i64 1, .int .i64 4, .int .i64 10, .int .i64 1, .int .i64 64, .int .i64 20, .int .i64 1, .int .i64 4, .int .i64 10, .int .i64 5, .int .i64 1, .int .i64 3, .int .i64 2, Value.slice none 0 0]) rfl rfl rfl) rfl ?_
 refine O.oo 1 rfl ?_
 refine O.l0 (Lo.storeM 1 (j := 0) (off := 1) (vs := [.int .i64 1]) (e := [.int .i64 1, .int .i64 4, .int .i64 10, .int .i64 1, .int .i64 64, .int .i64 20, .int .i64 1, .int .i64 4, .int .i64 10, .int .i64 5, .int .i64 1, .int .i64 3, .int .i64 2, Value.slice none 0 0]) [.int .i64 1, .int .i64 1, .int .i64 10, .int .i64 1, .int .i64 64, .int .i64 20, .int .i64 1, .int .i64 4, .int .i64 10, .int .i64 5, .int .i64 1, .int .i64 3, .int .i64 2, Value.slice none 0 0] rfl rfl rfl rfl (by omega) rfl rfl Z3 rfl rfl rfl rfl rfl) ?_
 rintro _ _ rfl
 refine O.oo 3 rfl ?_
 refine O.q (Qt.lva 0 A25 Z25 rfl rfl rfl) rfl ?_
 refine O.l (Lo.ca C23 (nb110 V167) [1] rfl rfl .nil) rfl ?_
 rintro _ _ ⟨_, ⟨g228, g235, V230, V233, g240, g243, g246, b224, g225, g247, g236, g237, g238, g239, V241, b242, g244, b226, b227, b245, rfl, rfl⟩, rfl⟩
 refine O.oo 8 rfl ?_
 refine O.l (Lo.al Y93 rfl) rfl ?_
 rintro _ _ ⟨g248, rfl, rfl⟩
 refine O.oc 7 rfl ?_
 refine J.un ?_
 refine J.co 14 rfl ?_
 refine O.p (Pu.add' rfl rfl (by decide)) rfl ?_
 refine O.p (Pu.buildA [(0, .int .i64 2), (1, .int .i64 3), (2, .int .i64 1)] [.int .i64 2, .int .i64 3, .int .i64 1] U95 Y95 Z3 rfl (by kernel_rfl)) rfl ?_
 refine O.oo 1 rfl ?_
 refine O.p (Pu.indexK1 (cs := [.int .i64 2, .int .i64 3, .int .i64 1]) U95 Z3 A3 rfl rfl (by decide) (by decide) rfl) rfl ?_
 refine O.p (Pu.build [(0, .int .i64 1), (1, .int .i64 (-1)), (3, .int .i64 2), (4, .int .i64 50), (5, .int .i64 9)] [.int .i64 1, .int .i64 (-1), .int .i64 0, .int .i64 2, .int .i64 50, .int .i64 9] #[(0, 1), (1, 1), (2, 1), (3, 1), (4, 1), (5, 1)] U41 Y41 (places41 N41) rfl (by kernel_rfl)) rfl ?_
 refine O.l (Lo.ca C32 (nb177 g228 g235 V230 V233 g240 g243 g246 b224 g225 g247 g244 b245 V241 b242 g236 g237 g238 g239) [2, 4, 9, 7, 18, 21, 6, 17, 16, 3, 14, 8, 15] rfl rfl .nil) rfl ?_
 rintro _ _ ⟨_, ⟨V309, V288, g305, rfl, rfl⟩, rfl⟩
 refine O.oo 3 rfl ?_
 refine O.l (Lo.al Y36 rfl) rfl ?_
 rintro _ _ ⟨g317, rfl, rfl⟩
 refine O.one (Src.row 14 rfl) (fun hV318 => ?_)
 refine O.l0 (Lo.st 0 Z36 rfl rfl rfl rfl rfl (by simp only [List.all_cons, List.all_nil, Bool.and_true, hV318] <;> rfl) rfl) ?_
 rintro _ _ rfl
 refine O.oo 5 rfl ?_
 refine O.q (Qt.lva 0 A36 Z36 rfl rfl rfl) rfl ?_
 refine O.p (Pu.indexAddrK 0 U93 Z36 rfl rfl (by decide) (by decide) rfl) rfl ?_
 refine O.l0 (Lo.st 17 Z36 rfl rfl rfl rfl rfl (by simp only [List.all_cons, List.all_nil, Bool.and_true, hV318] <;> rfl) rfl) ?_
 rintro _ _ rfl
 refine O.oo 11 rfl ?_
 refine O.p (Pu.add' rfl rfl (by decide)) rfl ?_
 refine O.oc 2 rfl ?_
 refine J.again ?_
 refine J.co 14 rfl ?_
 refine O.p (Pu.add' rfl rfl (by decide)) rfl ?_
 refine O.p (Pu.buildA [(0, .int .i64 2), (1, .int .i64 3), (2, .int .i64 1)] [.int .i64 2, .int .i64 3, .int .i64 1] U95 Y95 Z3 rfl (by kernel_rfl)) rfl ?_
 refine O.oo 1 rfl ?_
 refine O.p (Pu.indexK1 (cs := [.int .i64 2, .int .i64 3, .int .i64 1]) U95 Z3 A3 rfl rfl (by decide) (by decide) rfl) rfl ?_
 refine O.p (Pu.build [(0, .int .i64 2), (1, .int .i64 (-1)), (3, .int .i64 3), (4, .int .i64 50), (5, .int .i64 9)] [.int .i64 2, .int .i64 (-1), .int .i64 0, .int .i64 3, .int .i64 50, .int .i64 9] #[(0, 1), (1, 1), (2, 1), (3, 1), (4, 1), (5, 1)] U41 Y41 (places41 N41) rfl (by kernel_rfl)) rfl ?_
 refine O.l (Lo.ca C32 (nb206 g228 g235 V230 V233 g240 g243 g246 b224 g225 g247 g244 b245 V288 V241 b242 g236 g237 g238 g239 g305) [1, 2, 3, 4, 5, 6, 7, 8, 9, 10, 11, 15, 12, 16] rfl rfl .nil) rfl ?_
 rintro _ _ ⟨_, ⟨V340, V358, rfl, rfl⟩, rfl⟩
 refine O.oo 3 rfl ?_
 refine O.l (Lo.al Y36 rfl) rfl ?_
 rintro _ _ ⟨g362, rfl, rfl⟩
 refine O.one (Src.row 14 rfl) (fun hV363 => ?_)
 refine O.l0 (Lo.st 0 Z36 rfl rfl rfl rfl rfl (by simp only [List.all_cons, List.all_nil, Bool.and_true, hV363] <;> rfl) rfl) ?_
 rintro _ _ rfl
 refine O.oo 5 rfl ?_
 refine O.q (Qt.lva 0 A36 Z36 rfl rfl rfl) rfl ?_
 refine O.p (Pu.indexAddrK 2 U93 Z36 rfl rfl (by decide) (by decide) rfl) rfl ?_
 refine O.l0 (Lo.st 19 Z36 rfl rfl rfl rfl rfl (by simp only [List.all_cons, List.all_nil, Bool.and_true, hV363] <;> rfl) rfl) ?_
 rintro _ _ rfl
 refine O.oo 11 rfl ?_
 refine O.p (Pu.add' rfl rfl (by decide)) rfl ?_
 refine O.oc 2 rfl ?_
 refine J.again ?_
 refine J.co 14 rfl ?_
 refine O.p (Pu.add' rfl rfl (by decide)) rfl ?_
 refine O.p (Pu.buildA [(0, .int .i64 2), (1, .int .i64 3), (2, .int .i64 1)] [.int .i64 2, .int .i64 3, .int .i64 1] U95 Y95 Z3 rfl (by kernel_rfl)) rfl ?_
 refine O.oo 1 rfl ?_
 refine O.p (Pu.indexK1 (cs := [.int .i64 2, .int .i64 3, .int .i64 1]) U95 Z3 A3 rfl rfl (by decide) (by decide) rfl) rfl ?_
 refine O.p (Pu.build [(0, .int .i64 3), (1, .int .i64 (-1)), (3, .int .i64 1), (4, .int .i64 50), (5, .int .i64 9)] [.int .i64 3, .int .i64 (-1), .int .i64 0, .int .i64 1, .int .i64 50, .int .i64 9] #[(0, 1), (1, 1), (2, 1), (3, 1), (4, 1), (5, 1)] U41 Y41 (places41 N41) rfl (by kernel_rfl)) rfl ?_
 refine O.l (Lo.ca C32 (nb282 g228 g235 V230 V233 g240 g243 g246 b224 g225 g247 g244 b245 V358 V241 b242 g236 g237 g238 g239 g305) [1, 2, 3, 4, 5, 6, 7, 8, 9, 10, 11, 15, 25, 12, 13] rfl rfl .nil) rfl ?_
 rintro _ _ ⟨_, ⟨V458, V459, V456, rfl, rfl⟩, rfl⟩
 refine O.oo 3 rfl ?_
 refine O.l (Lo.al Y36 rfl) rfl ?_
 rintro _ _ ⟨g464, rfl, rfl⟩
 refine O.one (Src.row 15 rfl) (fun hV465 => ?_)
 refine O.one (Src.row 16 rfl) (fun hV466 => ?_)
 refine O.l0 (Lo.st 0 Z36 rfl rfl rfl rfl rfl (by simp only [List.all_cons, List.all_nil, Bool.and_true, hV465, hV466] <;> rfl) rfl) ?_
 rintro _ _ rfl
 refine O.oo 5 rfl ?_
 refine O.q (Qt.lva 0 A36 Z36 rfl rfl rfl) rfl ?_
 refine O.p (Pu.indexAddrK 4 U93 Z36 rfl rfl (by decide) (by decide) rfl) rfl ?_
 refine O.l0 (Lo.st 23 Z36 rfl rfl rfl rfl rfl (by simp only [List.all_cons, List.all_nil, Bool.and_true, hV465, hV466] <;> rfl) rfl) ?_
 rintro _ _ rfl
 refine O.oo 11 rfl ?_
 refine O.p (Pu.add' rfl rfl (by decide)) rfl ?_
 refine O.oc 2 rfl ?_
 refine J.again ?_
 refine J.co 11 rfl ?_
 refine O.l (Lo.ca C33 (nb323 g228 g235 V230 V233 g240 g243 g246 b224 g225 g247 g236 g237 g238 g239 g305 b227 b226 g244 b245 V456) [1, 3, 10, 12, 25, 13, 14, 30, 26, 4, 5, 17, 6, 21] rfl rfl .nil) rfl ?_
 rintro _ _ ⟨_, ⟨V537, V519, g533, rfl, rfl⟩, rfl⟩
 refine O.oo 3 rfl ?_
 refine O.l (Lo.al Y36 rfl) rfl ?_
 rintro _ _ ⟨g549, rfl, rfl⟩
 refine O.one (Src.row 14 rfl) (fun hV550 => ?_)
 refine O.one (Src.row 15 rfl) (fun hV551 => ?_)
 refine O.l0 (Lo.st 0 Z36 rfl rfl rfl rfl rfl (by simp only [List.all_cons, List.all_nil, Bool.and_true, hV550, hV551] <;> rfl) rfl) ?_
 rintro _ _ rfl
 refine O.oo 7 rfl ?_
 refine O.gz (Pu.qt (Pu.indexAddrK 0 U93 Z36 rfl rfl (by decide) (by decide) rfl)) rfl rfl ?_
 refine O.oo 1 rfl ?_
 refine O.gz (Qt.lv 30 A33 rfl rfl rfl) rfl rfl ?_
 refine O.gz (Qt.lenM U33 rfl (Src.row 29 rfl)) rfl rfl ?_
 refine O.oo 3 rfl ?_
 refine O.gz (Pu.qt (Pu.indexAddrK 2 U93 Z36 rfl rfl (by decide) (by decide) rfl)) rfl rfl ?_
 refine O.oo 1 rfl ?_
 refine O.gz (Qt.lv 30 A33 rfl rfl rfl) rfl rfl ?_
 refine O.gz (Qt.lenM U33 rfl (Src.row 27 rfl)) rfl rfl ?_
 refine O.oo 3 rfl ?_
 refine O.gz (Pu.qt (Pu.indexAddrK 4 U93 Z36 rfl rfl (by decide) (by decide) rfl)) rfl rfl ?_
 refine O.oo 1 rfl ?_
 refine O.gz (Qt.lv 30 A33 rfl rfl rfl) rfl rfl ?_
 refine O.gz (Qt.lenM U33 rfl (Src.row 24 rfl)) rfl rfl ?_
 refine O.oo 3 rfl ?_
 refine O.gz (Pu.qt (Pu.indexAddrK 4 U93 Z36 rfl rfl (by decide) (by decide) rfl)) rfl rfl ?_
 refine O.oo 1 rfl ?_
 refine O.gz (Qt.lv 30 A33 rfl rfl rfl) rfl rfl ?_
 refine O.gz (Qt.ix U33 Z51 rfl (Src.row 24 rfl) (j := 1) (a := [.int .i64 4, .int .i64 0, .int .i64 0, .int .i64 2, .int .i64 5, .int .i64 3, .int .i64 0]) rfl rfl rfl) rfl rfl ?_
 refine O.gz (Qt.lea A51 Z51 (Src.row 24 rfl) (j := 1) (a := [.int .i64 4, .int .i64 0, .int .i64 0, .int .i64 2, .int .i64 5, .int .i64 3, .int .i64 0]) rfl 0 rfl (by omega) rfl) rfl rfl ?_
 refine O.gz (Pu.qt (Pu.build [(0, .int .i64 4), (3, .int .i64 2), (4, .int .i64 5), (5, .int .i64 3)] [.int .i64 4, .int .i64 0, .int .i64 0, .int .i64 2, .int .i64 5, .int .i64 3, .int .i64 0] #[(0, 1), (1, 1), (2, 1), (3, 1), (4, 1), (5, 1), (6, 1)] U51 Y51 (places51 N51) rfl (by kernel_rfl))) rfl rfl ?_
 refine O.gz (Pu.qt (Pu.eqlI [4, 0, 0, 2, 5, 3, 0] [4, 0, 0, 2, 5, 3, 0] N51 Tryz.stoodInHeld51 Tryz.eqGuardType51 (fint51 N51) rfl rfl rfl rfl)) rfl rfl ?_
 refine O.oo 7 rfl ?_
 refine O.gz (Qt.lv 0 A34 rfl rfl rfl) rfl rfl ?_
 refine O.gz (Qt.lenM U34 rfl (Src.row 15 rfl)) rfl rfl ?_
 refine O.oo 4 rfl ?_
 refine O.gz (Qt.lv 0 A34 rfl rfl rfl) rfl rfl ?_
 refine O.gz (Qt.ix U34 Z62 rfl (Src.row 15 rfl) (j := 0) (a := [.int .i64 2, .int .i64 0, .int .i64 0, .int .i64 0, .int .i64 0, .int .i64 0, .int .i64 0, .int .i64 1, .int .i64 0, .int .i64 (-1), .int .i64 1, .int .i64 8, .int .i64 1, .int .i64 1, .int .i64 0, .int .i64 0, .int .i64 0, .int .i64 0, .int .i64 0, .int .i64 0, .int .i64 0, .int .i64 0, .int .i64 0]) rfl rfl rfl) rfl rfl ?_
 refine O.oo 2 rfl ?_
 refine O.gz (Qt.le A3 (Src.row 15 rfl) (j := 0) (a := [.int .i64 2, .int .i64 0, .int .i64 0, .int .i64 0, .int .i64 0, .int .i64 0, .int .i64 0, .int .i64 1, .int .i64 0, .int .i64 (-1), .int .i64 1, .int .i64 8, .int .i64 1, .int .i64 1, .int .i64 0, .int .i64 0, .int .i64 0, .int .i64 0, .int .i64 0, .int .i64 0, .int .i64 0, .int .i64 0, .int .i64 0]) rfl 10 rfl (by omega) rfl) rfl rfl ?_
 refine O.oo 4 rfl ?_
 refine O.gy (Lo.ca C14 (nb324 g228 g235 V230 V233 g240 g243 g246 b224 g225 g247 g533) [1, 6, 16, 2] rfl rfl .nil) rfl rfl ?_
 rintro V559 _ ⟨_, ⟨_, V556, rfl, rfl⟩, rfl⟩
 refine O.gz (Qt.lenM U57 rfl (Src.row 4 rfl)) rfl rfl ?_
 refine O.oc 4 rfl ?_
 exact J.r0 rfl rfl ⟨rfl, rfl⟩

end Go.Proofs.YtohjlkjhpibkmaaGreatDoor
