/-
  Runs that are known throughout, printed by a program of mine.
-/
import Derived.KernelRfl
import Derived.Test.YtohjlkjhpibkmaaGreatDoorFo
import Derived.Test.YtohjlkjhpibkmaaGreatDoorLkG
import Derived.Test.YtohjlkjhpibkmaaGreatDoorNumsT
import Derived.Test.YtohjlkjhpibkmaaGreatDoorVXA
import Derived.Test.YtohjlkjhpibkmaaGreatDoorNB2
namespace Go.Proofs.YtohjlkjhpibkmaaGreatDoor
open Go Go.LK
set_option linter.unusedSimpArgs false
set_option linter.unusedVariables false

set_option maxRecDepth 100000 in
theorem nb140 : Tri Tryz.prog 84 #[.agg #[.int .i64 1, .int .i64 (-1), .int .i64 0, .int .i64 2, .int .i64 50, .int .i64 9], .int .i64 0, .int .i64 1] [] [] (fun v L' => v = .agg #[.int .i64 1, .int .i64 2, .int .i64 (-1), .int .i64 50, .int .i64 9, .int .i64 0, .int .i64 1] ∧ L' = []) := by
 refine Tri.en F84 rfl K84 rfl fun w0 => ?_
 refine J.co 2 rfl ?_
 refine O.l (Lo.bx rfl rfl) rfl ?_
 rintro _ _ ⟨g274, rfl, rfl⟩
 refine O.l (Lo.al Y66 rfl) rfl ?_
 rintro _ _ ⟨g275, rfl, rfl⟩
 refine O.oo 4 rfl ?_
 refine O.q (Qt.lv 1 A3 rfl rfl rfl) rfl ?_
 refine O.oo 1 rfl ?_
 refine O.q (Qt.lv 1 A3 rfl rfl rfl) rfl ?_
 refine O.oo 1 rfl ?_
 refine O.q (Qt.lv 1 A3 rfl rfl rfl) rfl ?_
 refine O.oo 1 rfl ?_
 refine O.q (Qt.lv 1 A3 rfl rfl rfl) rfl ?_
 refine O.oo 1 rfl ?_
 refine O.q (Qt.lv 1 A3 rfl rfl rfl) rfl ?_
 refine O.oo 2 rfl ?_
 refine O.p (Pu.build [(0, .int .i64 1), (1, .int .i64 2), (2, .int .i64 (-1)), (3, .int .i64 50), (4, .int .i64 9), (5, .int .i64 0), (6, .int .i64 1)] [.int .i64 1, .int .i64 2, .int .i64 (-1), .int .i64 50, .int .i64 9, .int .i64 0, .int .i64 1] #[(0, 1), (1, 1), (2, 1), (3, 1), (4, 1), (5, 1), (6, 1)] U66 Y66 (places66 N66) rfl (by kernel_rfl)) rfl ?_
 refine O.l0 (Lo.st 0 Z66 rfl rfl rfl rfl rfl rfl rfl) ?_
 rintro _ _ rfl
 refine O.oc 1 rfl ?_
 exact J.rn [_] [] rfl ⟨⟨_, _, 0, 0, _, rfl, Cel.var 0 rfl, rfl, Cut.agg _ A66 Z66 rfl rfl⟩, trivial⟩ rfl ⟨rfl, rfl⟩

set_option maxRecDepth 100000 in
theorem nb141 (g244 : Nat) (b245 : Nat) (V281 : Value) : Tri Tryz.prog 316 #[.pointer (some ⟨g244, 0, none⟩), .int .i64 0, .agg #[.int .i64 1, .int .i64 2, .int .i64 (-1), .int .i64 50, .int .i64 9, .int .i64 0, .int .i64 1]] [] [var g244 [.map (some b245), .int .i64 1, V281] 294, row V281 66 7 ([[.int .i64 1, .int .i64 2, .int .i64 (-1), .int .i64 50, .int .i64 9, .int .i64 0, .int .i64 1]].map id), mi b245 (Value.int .i64) ([] : List (Int × Int))] (fun v L' => v = .tuple #[] ∧ L' = [var g244 [.map (some b245), .int .i64 1, V281] 294, row V281 66 7 ([[.int .i64 1, .int .i64 2, .int .i64 (-1), .int .i64 50, .int .i64 9, .int .i64 0, .int .i64 1]].map id), mi b245 (Value.int .i64) [(1, 0)]]) := by
 refine Tri.en F316 rfl K316 rfl fun w0 => ?_
 refine J.co 2 rfl ?_
 refine O.l (Lo.bx rfl rfl) rfl ?_
 rintro _ _ ⟨g283, rfl, rfl⟩
 refine O.oc 1 rfl ?_
 refine J.dm [(0, false), (1, false), (2, false), (3, false), (4, false), (5, false), (6, false), (7, false), (8, false), (9, false), (10, false), (11, false), (12, false), (13, false), (14, false), (15, true), (16, true), (17, false), (18, true)] [0, 1, 2] Tryz.mixed (by kernel_rfl) rfl ?_
 refine Mx.r 3 rfl ?_
 refine Mx.q rfl (Qt.lv 1 A52 rfl rfl rfl) rfl ?_
 refine Mx.r 5 rfl ?_
 refine Mx.q rfl (Qt.lv 1 A178 rfl rfl rfl) rfl ?_
 refine Mx.r 1 rfl ?_
 refine Mx.q rfl (Qt.lv 0 A3 rfl rfl rfl) rfl ?_
 refine Mx.q rfl (Qt.lva 0 A66 Z66 rfl rfl rfl) rfl ?_
 refine Mx.r 1 rfl ?_
 refine Mx.q rfl (Qt.ix U52 Z66 rfl (Src.row 2 rfl) (j := 0) (a := [.int .i64 1, .int .i64 2, .int .i64 (-1), .int .i64 50, .int .i64 9, .int .i64 0, .int .i64 1]) rfl rfl rfl) rfl ?_
 refine Mx.l0 rfl (Lo.storeM 2 (j := 0) (off := 0) (vs := [.int .i64 1, .int .i64 2, .int .i64 (-1), .int .i64 50, .int .i64 9, .int .i64 0, .int .i64 1]) (e := [.int .i64 1, .int .i64 2, .int .i64 (-1), .int .i64 50, .int .i64 9, .int .i64 0, .int .i64 1]) [.int .i64 1, .int .i64 2, .int .i64 (-1), .int .i64 50, .int .i64 9, .int .i64 0, .int .i64 1] rfl rfl rfl rfl (by omega) rfl rfl Z66 rfl rfl rfl rfl rfl) ?_
 rintro _ _ rfl
 refine MxK.gp [0, 1, 2] [0, 1, 2] rfl rfl ?_
 refine Mx.l rfl (Lo.mapEnt 3 N178 N3 Y3 rfl rfl rfl) rfl ?_
 rintro _ _ ⟨V284, x285, rfl, rfl⟩
 refine MxK.gp [0, 1, 2] [0, 1, 2] rfl rfl ?_
 refine Mx.r 1 rfl ?_
 refine Mx.l0 rfl (Lo.entSt (u := 0) 3 rfl rfl rfl rfl) ?_
 rintro _ _ rfl
 refine MxK.al [0, 1, 2] rfl (by kernel_rfl) ?_
 refine Mx.nil ?_
 exact J.dn [] [1, 2, 3] rfl trivial rfl ⟨rfl, rfl⟩

set_option maxRecDepth 100000 in
theorem nb142 (g244 : Nat) : Tri Tryz.prog 317 #[.pointer (some ⟨g244, 0, none⟩), .int .i64 0] [] [] (fun v L' => v = .tuple #[] ∧ L' = []) := by
 refine Tri.en F317 rfl K317 rfl fun w0 => ?_
 refine J.cc 1 rfl ?_
 refine J.un ?_
 refine J.cc 8 rfl ?_
 exact J.dn [] [] rfl trivial rfl ⟨rfl, rfl⟩

set_option maxRecDepth 100000 in
theorem nb143 (g244 : Nat) (b245 : Nat) : Tri Tryz.prog 263 #[.pointer (some ⟨g244, 0, none⟩), .agg #[.int .i64 1, .int .i64 2, .int .i64 (-1), .int .i64 50, .int .i64 9, .int .i64 0, .int .i64 1]] [] [var g244 [.map (some b245), .int .i64 1, Value.slice none 0 0] 294, mi b245 (Value.int .i64) ([] : List (Int × Int))] (fun v L' => ∃ (V281 : Value), v = .int .i64 0 ∧ L' = [var g244 [.map (some b245), .int .i64 1, V281] 294, mi b245 (Value.int .i64) [(1, 0)], row V281 66 7 ([[.int .i64 1, .int .i64 2, .int .i64 (-1), .int .i64 50, .int .i64 9, .int .i64 0, .int .i64 1]].map id)]) := by
 refine Tri.en F263 rfl K263 rfl fun w0 => ?_
 refine J.co 2 rfl ?_
 refine O.l (Lo.bx rfl rfl) rfl ?_
 rintro _ _ ⟨g278, rfl, rfl⟩
 refine O.oo 7 rfl ?_
 refine O.q (Qt.lv 0 A3 rfl rfl rfl) rfl ?_
 refine O.l (Lo.ca C259 (nb117 g244 b245) [1, 2] rfl rfl .nil) rfl ?_
 rintro _ _ ⟨_, ⟨rfl, rfl⟩, rfl⟩
 refine O.oo 3 rfl ?_
 refine O.l (Lo.al Y66 rfl) rfl ?_
 rintro _ _ ⟨g279, rfl, rfl⟩
 refine O.l0 (Lo.st 0 Z66 rfl rfl rfl rfl rfl rfl rfl) ?_
 rintro _ _ rfl
 refine O.oc 10 rfl ?_
 refine J.drawStill Tryz.mixed (by kernel_rfl) ?_
 refine S.r 1 rfl ?_
 refine S.p (Pu.someEq N163 rfl) rfl ?_
 refine S.r 4 rfl ?_
 refine S.gz (Qt.lv 1 A52 rfl rfl rfl) rfl rfl ?_
 refine S.gz (Pu.qt (Pu.len (A := none) (n := 0) (cap := 0) U52 rfl)) rfl rfl ?_
 refine S.r 3 rfl ?_
 refine S.gz (Qt.lv 1 A3 rfl rfl rfl) rfl rfl ?_
 refine S.r 2 rfl ?_
 refine S.endJ ?_
 refine J.cc 3 rfl ?_
 refine J.dm [(0, false), (1, false), (2, false), (3, false), (4, false), (5, false), (6, true), (7, true), (8, false), (9, false), (10, true)] [1, 3] Tryz.mixed (by kernel_rfl) rfl ?_
 refine Mx.r 4 rfl ?_
 refine Mx.q rfl (Qt.lv 0 A52 rfl rfl rfl) rfl ?_
 refine Mx.q rfl (Qt.lva 1 A66 Z66 rfl rfl rfl) rfl ?_
 refine Mx.l rfl (Lo.bm id [[.int .i64 1, .int .i64 2, .int .i64 (-1), .int .i64 50, .int .i64 9, .int .i64 0, .int .i64 1]] U52 Z66 Y66 rfl rfl rfl (by kernel_rfl) rfl rfl) rfl ?_
 rintro V280 _ rfl
 refine MxK.gp [2, 4] [0, 1] rfl rfl ?_
 refine Mx.nr 66 7 (([] : List (List Value)).map id) rfl rfl rfl ?_
 refine Mx.l rfl (Lo.am 0 N52 info66 rfl rfl rfl rfl rfl (Src.row 1 rfl) (id_one rfl) (Nat.le_of_ble_eq_true rfl) (Nat.le_of_ble_eq_true rfl)) rfl ?_
 rintro V281 _ rfl
 refine MxK.al [3, 5] rfl (by kernel_rfl) ?_
 refine Mx.r 2 rfl ?_
 refine Mx.one rfl (fun _ h => by cases h <;> rfl) (Src.row 0 rfl) (fun hV282 => ?_)
 refine Mx.l0 rfl (Lo.so 3 Z52 hV282 rfl rfl rfl rfl) ?_
 rintro _ _ rfl
 refine MxK.al [3, 5] rfl (by kernel_rfl) ?_
 refine Mx.nil ?_
 refine J.cc 1 rfl ?_
 refine J.drawTail 8 Tryz.mixed (by kernel_rfl) ?_
 refine S.r 4 rfl ?_
 refine S.q (Qt.lv 3 A52 rfl rfl rfl) rfl ?_
 refine S.q (Qt.lenM U52 rfl (Src.row 0 rfl)) rfl ?_
 refine S.p (Pu.sub' rfl rfl (by decide)) rfl ?_
 refine S.q (Qt.lva 5 A66 Z66 rfl rfl rfl) rfl ?_
 refine S.endO ?_
 refine O.l (Lo.ca C316 (nb141 g244 b245 V281) [3, 0, 4] rfl rfl .nil) rfl ?_
 rintro _ _ ⟨_, ⟨rfl, rfl⟩, rfl⟩
 refine O.oo 7 rfl ?_
 refine O.q (Qt.lv 0 A52 rfl rfl rfl) rfl ?_
 refine O.q (Qt.lenM U52 rfl (Src.row 1 rfl)) rfl ?_
 refine O.p (Pu.sub' rfl rfl (by decide)) rfl ?_
 refine O.l (Lo.ca C317 (nb142 g244) [] rfl rfl .nil) rfl ?_
 rintro _ _ ⟨_, ⟨rfl, rfl⟩, rfl⟩
 refine O.oc 5 rfl ?_
 exact J.r1 [0, 2, 1] rfl rfl rfl ⟨V281, rfl, rfl⟩

set_option maxRecDepth 100000 in
theorem nb144 (g243 : Nat) (g244 : Nat) (b245 : Nat) : Tri Tryz.prog 182 #[.pointer (some ⟨g243, 0, none⟩), .agg #[.int .i64 1, .int .i64 2, .int .i64 (-1), .int .i64 50, .int .i64 9, .int .i64 0, .int .i64 1]] [] [var g243 [.pointer (some ⟨g244, 0, none⟩), .int .i64 1] 206, var g244 [.map (some b245), .int .i64 1, Value.slice none 0 0] 294, mi b245 (Value.int .i64) ([] : List (Int × Int))] (fun v L' => ∃ (V281 : Value), v = .tuple #[.agg #[.int .i64 0, .int .i64 0, .int .i64 0, .int .i64 0, .int .i64 0, .int .i64 0, .int .i64 0], .bool false, .int .i64 0] ∧ L' = [var g243 [.pointer (some ⟨g244, 0, none⟩), .int .i64 1] 206, var g244 [.map (some b245), .int .i64 1, V281] 294, mi b245 (Value.int .i64) [(1, 0)], row V281 66 7 ([[.int .i64 1, .int .i64 2, .int .i64 (-1), .int .i64 50, .int .i64 9, .int .i64 0, .int .i64 1]].map id)]) := by
 refine Tri.en F182 rfl K182 rfl fun w0 => ?_
 refine J.co 2 rfl ?_
 refine O.l (Lo.bx rfl rfl) rfl ?_
 rintro _ _ ⟨g276, rfl, rfl⟩
 refine O.l (Lo.al Y66 rfl) rfl ?_
 rintro _ _ ⟨g277, rfl, rfl⟩
 refine O.oo 6 rfl ?_
 refine O.l (Lo.ca C114 (nb115 g243 g244) [2] rfl rfl .nil) rfl ?_
 rintro _ _ ⟨_, ⟨rfl, rfl⟩, rfl⟩
 refine O.oo 6 rfl ?_
 refine O.q (Qt.lva 2 A66 Z66 rfl rfl rfl) rfl ?_
 refine O.l (Lo.ca C263 (nb143 g244 b245) [3, 4] rfl rfl .nil) rfl ?_
 rintro _ _ ⟨_, ⟨V281, rfl, rfl⟩, rfl⟩
 refine O.oo 10 rfl ?_
 refine O.p (Pu.build [] [.int .i64 0, .int .i64 0, .int .i64 0, .int .i64 0, .int .i64 0, .int .i64 0, .int .i64 0] #[(0, 1), (1, 1), (2, 1), (3, 1), (4, 1), (5, 1), (6, 1)] U66 Y66 (places66 N66) rfl (by kernel_rfl)) rfl ?_
 refine O.l0 (Lo.st 4 Z66 rfl rfl rfl rfl rfl rfl rfl) ?_
 rintro _ _ rfl
 refine O.oc 3 rfl ?_
 exact J.rn [_, _, _] [3, 0, 1, 2] rfl ⟨⟨_, _, 0, 0, _, rfl, Cel.var 4 rfl, rfl, Cut.agg _ A66 Z66 rfl rfl⟩, rfl, rfl, trivial⟩ rfl ⟨V281, rfl, rfl⟩

set_option maxRecDepth 100000 in
theorem nb145 (g253 : Nat) (g228 : Nat) (V270 : Value) (g235 : Nat) (V230 : Value) (V233 : Value) (g240 : Nat) (g243 : Nat) (g246 : Nat) (b224 : Nat) (g225 : Nat) (g247 : Nat) (g244 : Nat) (b245 : Nat) : Tri Tryz.prog 85 #[.pointer (some ⟨g253, 0, none⟩), .agg #[.int .i64 1, .int .i64 (-1), .int .i64 0, .int .i64 2, .int .i64 50, .int .i64 9]] [] [var g253 [.pointer (some ⟨g228, 0, none⟩), V270, Value.slice none 0 0] 261, var g228 [.pointer (some ⟨g235, 0, none⟩), .int .i64 2, .int .i64 4, .int .i64 1000, .int .u64 1, V230, .int .i64 0, .int .i64 1, .int .i64 1, .int .i64 10, .int .i64 1, .int .i64 64, .int .i64 20, .int .i64 1, .int .i64 4, .int .i64 10, .int .i64 5, .int .i64 1, .int .i64 3, .int .i64 2, V233, .int .i64 0, .int .i64 0, .int .i64 0, .int .i64 0, .pointer (some ⟨g240, 0, none⟩), .pointer (some ⟨g243, 0, none⟩), .pointer (some ⟨g246, 0, none⟩), .map (some b224), .pointer (some ⟨g225, 0, none⟩), .pointer (some ⟨g247, 0, none⟩)] 90, var g243 [.pointer (some ⟨g244, 0, none⟩), .int .i64 1] 206, var g244 [.map (some b245), .int .i64 1, Value.slice none 0 0] 294, mi b245 (Value.int .i64) ([] : List (Int × Int))] (fun v L' => ∃ (V288 : Value), v = .tuple #[] ∧ L' = [var g253 [.pointer (some ⟨g228, 0, none⟩), V270, Value.slice none 0 0] 261, var g228 [.pointer (some ⟨g235, 0, none⟩), .int .i64 2, .int .i64 4, .int .i64 1000, .int .u64 1, V230, .int .i64 0, .int .i64 1, .int .i64 1, .int .i64 10, .int .i64 1, .int .i64 64, .int .i64 20, .int .i64 1, .int .i64 4, .int .i64 10, .int .i64 5, .int .i64 1, .int .i64 3, .int .i64 2, V233, .int .i64 0, .int .i64 0, .int .i64 1, .int .i64 0, .pointer (some ⟨g240, 0, none⟩), .pointer (some ⟨g243, 0, none⟩), .pointer (some ⟨g246, 0, none⟩), .map (some b224), .pointer (some ⟨g225, 0, none⟩), .pointer (some ⟨g247, 0, none⟩)] 90, var g243 [.pointer (some ⟨g244, 0, none⟩), .int .i64 1] 206, var g244 [.map (some b245), .int .i64 1, V288] 294, mi b245 (Value.int .i64) [(1, 0)], row V288 66 7 ([[.int .i64 1, .int .i64 2, .int .i64 (-1), .int .i64 50, .int .i64 9, .int .i64 0, .int .i64 1]].map id)]) := by
 refine Tri.en F85 rfl K85 rfl fun w0 => ?_
 refine J.co 2 rfl ?_
 refine O.l (Lo.bx rfl rfl) rfl ?_
 rintro _ _ ⟨g272, rfl, rfl⟩
 refine O.oo 6 rfl ?_
 refine O.q (Qt.lv 1 A29 rfl rfl rfl) rfl ?_
 refine O.oo 7 rfl ?_
 refine O.q (Qt.lv 2 A3 rfl rfl rfl) rfl ?_
 refine O.p (Pu.add' rfl rfl (by decide)) rfl ?_
 refine O.oo 2 rfl ?_
 refine O.l0 (Lo.st 2 Z3 rfl rfl rfl rfl rfl rfl rfl) ?_
 rintro _ _ rfl
 refine O.oc 2 rfl ?_
 refine J.drawA Tryz.mixed ?_
 refine A.edge 13 19 rfl ?_ ?_
 ·
  refine A.mx [(0, false), (1, false), (2, false), (3, false), (4, false), (5, false), (6, false), (7, false), (8, false), (9, false), (10, false), (11, false), (12, false), (19, true), (13, true), (14, true), (15, false), (16, false), (17, false), (18, false), (20, true), (21, false), (22, false)] [0, 2] (by kernel_rfl) rfl ?_
  refine Mx.r 3 rfl ?_
  refine Mx.q rfl (Qt.lv 1 A84 rfl rfl rfl) rfl ?_
  refine Mx.q rfl (Qt.lva 0 A41 Z41 rfl rfl rfl) rfl ?_
  refine Mx.r 3 rfl ?_
  refine Mx.q rfl (Qt.lv 1 A3 rfl rfl rfl) rfl ?_
  refine Mx.r 3 rfl ?_
  refine Mx.q rfl (Qt.lv 1 A3 rfl rfl rfl) rfl ?_
  refine Mx.l rfl (Lo.al Y66 rfl) rfl ?_
  rintro _ _ ⟨g273, rfl, rfl⟩
  refine MxK.gp [1, 3] [0, 1] rfl rfl ?_
  refine Mx.l rfl (Lo.ca C84 nb140 [] rfl rfl .nil) rfl ?_
  rintro _ _ ⟨_, ⟨rfl, rfl⟩, rfl⟩
  refine MxK.gp [1, 3] [0, 1] rfl rfl ?_
  refine Mx.l rfl (Lo.ca C182 (nb144 g243 g244 b245) [4, 5, 6] rfl rfl .nil) rfl ?_
  rintro _ _ ⟨_, ⟨V281, rfl, rfl⟩, rfl⟩
  refine MxK.gp [5, 7] [0, 1] rfl rfl ?_
  refine Mx.r 4 rfl ?_
  refine Mx.l0 rfl (Lo.st 4 Z66 rfl rfl rfl rfl rfl rfl rfl) ?_
  rintro _ _ rfl
  refine MxK.al [5, 7] rfl (by kernel_rfl) ?_
  refine Mx.r 2 rfl ?_
  refine Mx.nil ?_
  refine J.cc 6 rfl ?_
  exact J.dn [] [6, 7, 0, 1, 2, 3] rfl trivial rfl ⟨V281, rfl, rfl⟩
 ·
  refine A.edge 14 19 rfl ?_ ?_
  ·
   refine A.mx [(0, false), (1, false), (2, false), (3, false), (4, false), (5, false), (6, false), (7, false), (8, false), (9, false), (10, false), (11, false), (12, false), (13, true), (19, true), (14, true), (15, false), (16, false), (17, false), (18, false), (20, true), (21, false), (22, false)] [0, 2] (by kernel_rfl) rfl ?_
   refine Mx.r 3 rfl ?_
   refine Mx.q rfl (Qt.lv 1 A84 rfl rfl rfl) rfl ?_
   refine Mx.q rfl (Qt.lva 0 A41 Z41 rfl rfl rfl) rfl ?_
   refine Mx.r 3 rfl ?_
   refine Mx.q rfl (Qt.lv 1 A3 rfl rfl rfl) rfl ?_
   refine Mx.r 3 rfl ?_
   refine Mx.q rfl (Qt.lv 1 A3 rfl rfl rfl) rfl ?_
   refine Mx.l rfl (Lo.ca C84 nb140 [] rfl rfl .nil) rfl ?_
   rintro _ _ ⟨_, ⟨rfl, rfl⟩, rfl⟩
   refine MxK.gp [0, 2] [0, 1] rfl rfl ?_
   refine Mx.l rfl (Lo.al Y66 rfl) rfl ?_
   rintro _ _ ⟨g286, rfl, rfl⟩
   refine MxK.gp [1, 3] [0, 1] rfl rfl ?_
   refine Mx.l rfl (Lo.ca C182 (nb144 g243 g244 b245) [4, 5, 6] rfl rfl .nil) rfl ?_
   rintro _ _ ⟨_, ⟨V287, rfl, rfl⟩, rfl⟩
   refine MxK.gp [5, 7] [0, 1] rfl rfl ?_
   refine Mx.r 4 rfl ?_
   refine Mx.l0 rfl (Lo.st 4 Z66 rfl rfl rfl rfl rfl rfl rfl) ?_
   rintro _ _ rfl
   refine MxK.al [5, 7] rfl (by kernel_rfl) ?_
   refine Mx.r 2 rfl ?_
   refine Mx.nil ?_
   refine J.cc 6 rfl ?_
   exact J.dn [] [6, 7, 0, 1, 2, 3] rfl trivial rfl ⟨V287, rfl, rfl⟩
  ·
   refine A.mx [(0, false), (1, false), (2, false), (3, false), (4, false), (5, false), (6, false), (7, false), (8, false), (9, false), (10, false), (11, false), (12, false), (13, true), (14, true), (15, false), (16, false), (17, false), (18, false), (19, true), (20, true), (21, false), (22, false)] [0, 2] (by kernel_rfl) rfl ?_
   refine Mx.r 3 rfl ?_
   refine Mx.q rfl (Qt.lv 1 A84 rfl rfl rfl) rfl ?_
   refine Mx.q rfl (Qt.lva 0 A41 Z41 rfl rfl rfl) rfl ?_
   refine Mx.r 3 rfl ?_
   refine Mx.q rfl (Qt.lv 1 A3 rfl rfl rfl) rfl ?_
   refine Mx.r 3 rfl ?_
   refine Mx.q rfl (Qt.lv 1 A3 rfl rfl rfl) rfl ?_
   refine Mx.l rfl (Lo.ca C84 nb140 [] rfl rfl .nil) rfl ?_
   rintro _ _ ⟨_, ⟨rfl, rfl⟩, rfl⟩
   refine MxK.gp [0, 2] [0, 1] rfl rfl ?_
   refine Mx.l rfl (Lo.ca C182 (nb144 g243 g244 b245) [3, 4, 5] rfl rfl .nil) rfl ?_
   rintro _ _ ⟨_, ⟨V288, rfl, rfl⟩, rfl⟩
   refine MxK.gp [4, 6] [0, 1] rfl rfl ?_
   refine Mx.r 4 rfl ?_
   refine Mx.l rfl (Lo.al Y66 rfl) rfl ?_
   rintro _ _ ⟨g289, rfl, rfl⟩
   refine MxK.gp [5, 7] [0, 1] rfl rfl ?_
   refine Mx.l0 rfl (Lo.st 0 Z66 rfl rfl rfl rfl rfl rfl rfl) ?_
   rintro _ _ rfl
   refine MxK.al [5, 7] rfl (by kernel_rfl) ?_
   refine Mx.r 2 rfl ?_
   refine Mx.nil ?_
   refine J.cc 6 rfl ?_
   exact J.dn [] [6, 7, 1, 2, 3, 4] rfl trivial rfl ⟨V288, rfl, rfl⟩

set_option maxRecDepth 100000 in
theorem nb146 (g246 : Nat) : Tri Tryz.prog 116 #[.pointer (some ⟨g246, 0, none⟩)] [] [var g246 (.int .i64 1 :: (rp 16 (Value.pointer none) [])) 210] (fun v L' => v = .int .i64 1 ∧ L' = [var g246 (.int .i64 1 :: (rp 16 (Value.pointer none) [])) 210]) := by
 refine Tri.en F116 rfl K116 rfl fun w0 => ?_
 refine J.co 8 rfl ?_
 refine O.p (Pu.someEq N85 rfl) rfl ?_
 refine O.oo 8 rfl ?_
 refine O.q (Qt.lv 0 A3 rfl rfl rfl) rfl ?_
 refine O.oc 2 rfl ?_
 exact J.r1 [0] rfl rfl rfl ⟨rfl, rfl⟩

set_option maxRecDepth 100000 in
theorem nb147 (g246 : Nat) : Tri Tryz.prog 117 #[.pointer (some ⟨g246, 0, none⟩), .int .i64 0] [] [var g246 (.int .i64 1 :: (rp 16 (Value.pointer none) [])) 210] (fun v L' => v = .tuple #[.agg #[.int .i64 0, .int .i64 0, .int .i64 0, .int .i64 0, .int .i64 0, .int .i64 0, .int .i64 0], .bool false] ∧ L' = [var g246 (.int .i64 1 :: (rp 16 (Value.pointer none) [])) 210]) := by
 refine Tri.en F117 rfl K117 rfl fun w0 => ?_
 refine J.co 2 rfl ?_
 refine O.l (Lo.al Y66 rfl) rfl ?_
 rintro _ _ ⟨g290, rfl, rfl⟩
 refine O.oo 10 rfl ?_
 refine O.gy (Lo.ca C116 (nb146 g246) [1] rfl rfl .nil) rfl rfl ?_
 rintro _ _ ⟨_, ⟨rfl, rfl⟩, rfl⟩
 refine O.oo 7 rfl ?_
 refine O.gz (Pu.qt (Pu.indexAddrK 1 U208 Z207 rfl rfl (by decide) (by decide) rfl)) rfl rfl ?_
 refine O.gz (Qt.lv 0 A207 rfl rfl rfl) rfl rfl ?_
 refine O.gz (Pu.qt (Pu.nilEq N207 rfl)) rfl rfl ?_
 refine O.oo 5 rfl ?_
 refine O.p (Pu.build [] [.int .i64 0, .int .i64 0, .int .i64 0, .int .i64 0, .int .i64 0, .int .i64 0, .int .i64 0] #[(0, 1), (1, 1), (2, 1), (3, 1), (4, 1), (5, 1), (6, 1)] U66 Y66 (places66 N66) rfl (by kernel_rfl)) rfl ?_
 refine O.l0 (Lo.st 1 Z66 rfl rfl rfl rfl rfl rfl rfl) ?_
 rintro _ _ rfl
 refine O.oc 2 rfl ?_
 exact J.rn [_, _] [0] rfl ⟨⟨_, _, 0, 0, _, rfl, Cel.var 1 rfl, rfl, Cut.agg _ A66 Z66 rfl rfl⟩, rfl, trivial⟩ rfl ⟨rfl, rfl⟩

set_option maxRecDepth 100000 in
theorem nb148 (g246 : Nat) : Tri Tryz.prog 41 #[.pointer (some ⟨g246, 0, none⟩)] [] [var g246 (.int .i64 1 :: (rp 16 (Value.pointer none) [])) 210] (fun v L' => v = Value.slice none 0 0 ∧ L' = [var g246 (.int .i64 1 :: (rp 16 (Value.pointer none) [])) 210]) := by
 refine Tri.en F41 rfl K41 rfl fun w0 => ?_
 refine J.co 12 rfl ?_
 refine O.l (Lo.ca C116 (nb146 g246) [0] rfl rfl .nil) rfl ?_
 rintro _ _ ⟨_, ⟨rfl, rfl⟩, rfl⟩
 refine O.oc 3 rfl ?_
 refine J.un ?_
 refine J.co 18 rfl ?_
 refine O.l (Lo.ca C117 (nb147 g246) [0] rfl rfl .nil) rfl ?_
 rintro _ _ ⟨_, ⟨rfl, rfl⟩, rfl⟩
 refine O.oo 3 rfl ?_
 refine O.l (Lo.al Y66 rfl) rfl ?_
 rintro _ _ ⟨g291, rfl, rfl⟩
 refine O.l0 (Lo.st 0 Z66 rfl rfl rfl rfl rfl rfl rfl) ?_
 rintro _ _ rfl
 refine O.oo 10 rfl ?_
 refine O.p (Pu.add' rfl rfl (by decide)) rfl ?_
 refine O.oc 2 rfl ?_
 refine J.again ?_
 refine J.cc 12 rfl ?_
 exact J.r1 [1] rfl rfl rfl ⟨rfl, rfl⟩

set_option maxRecDepth 100000 in
theorem nb149 (g246 : Nat) : Tri Tryz.prog 183 #[.pointer (some ⟨g246, 0, none⟩)] [] [var g246 (.int .i64 1 :: (rp 16 (Value.pointer none) [])) 210] (fun v L' => v = .int .i64 1 ∧ L' = [var g246 (.int .i64 1 :: (rp 16 (Value.pointer none) [])) 210]) := by
 refine Tri.en F183 rfl K183 rfl fun w0 => ?_
 refine J.co 7 rfl ?_
 refine O.l (Lo.ca C116 (nb146 g246) [0] rfl rfl .nil) rfl ?_
 rintro _ _ ⟨_, ⟨rfl, rfl⟩, rfl⟩
 refine O.oo 1 rfl ?_
 refine O.l (Lo.ca C41 (nb148 g246) [0] rfl rfl .nil) rfl ?_
 rintro _ _ ⟨_, ⟨rfl, rfl⟩, rfl⟩
 refine O.p (Pu.len (A := none) (n := 0) (cap := 0) U52 rfl) rfl ?_
 refine O.p (Pu.sub' rfl rfl (by decide)) rfl ?_
 refine O.oc 2 rfl ?_
 exact J.r1 [0] rfl rfl rfl ⟨rfl, rfl⟩

set_option maxRecDepth 100000 in
theorem nb150 (g244 : Nat) (b245 : Nat) (V288 : Value) : Tri Tryz.prog 219 #[.pointer (some ⟨g244, 0, none⟩)] [] [var g244 [.map (some b245), .int .i64 1, V288] 294, row V288 66 7 ([[.int .i64 1, .int .i64 2, .int .i64 (-1), .int .i64 50, .int .i64 9, .int .i64 0, .int .i64 1]].map id)] (fun v L' => v = .int .i64 1 ∧ L' = [var g244 [.map (some b245), .int .i64 1, V288] 294, row V288 66 7 ([[.int .i64 1, .int .i64 2, .int .i64 (-1), .int .i64 50, .int .i64 9, .int .i64 0, .int .i64 1]].map id)]) := by
 refine Tri.en F219 rfl K219 rfl fun w0 => ?_
 refine J.co 8 rfl ?_
 refine O.p (Pu.someEq N163 rfl) rfl ?_
 refine O.oo 8 rfl ?_
 refine O.q (Qt.lv 0 A52 rfl rfl rfl) rfl ?_
 refine O.q (Qt.lenM U52 rfl (Src.row 1 rfl)) rfl ?_
 refine O.oc 2 rfl ?_
 exact J.r1 [0, 1] rfl rfl rfl ⟨rfl, rfl⟩

set_option maxRecDepth 100000 in
theorem nb151 (g244 : Nat) (b245 : Nat) (V288 : Value) : Tri Tryz.prog 316 #[.pointer (some ⟨g244, 0, none⟩), .int .i64 0, .agg #[.int .i64 1, .int .i64 2, .int .i64 (-1), .int .i64 50, .int .i64 9, .int .i64 0, .int .i64 1]] [] [var g244 [.map (some b245), .int .i64 1, V288] 294, row V288 66 7 ([[.int .i64 1, .int .i64 2, .int .i64 (-1), .int .i64 50, .int .i64 9, .int .i64 0, .int .i64 1]].map id), mi b245 (Value.int .i64) [(1, 0)]] (fun v L' => v = .tuple #[] ∧ L' = [var g244 [.map (some b245), .int .i64 1, V288] 294, row V288 66 7 ([[.int .i64 1, .int .i64 2, .int .i64 (-1), .int .i64 50, .int .i64 9, .int .i64 0, .int .i64 1]].map id), mi b245 (Value.int .i64) [(1, 0)]]) := by
 refine Tri.en F316 rfl K316 rfl fun w0 => ?_
 refine J.co 2 rfl ?_
 refine O.l (Lo.bx rfl rfl) rfl ?_
 rintro _ _ ⟨g298, rfl, rfl⟩
 refine O.oc 1 rfl ?_
 refine J.dm [(0, false), (1, false), (2, false), (3, false), (4, false), (5, false), (6, false), (7, false), (8, false), (9, false), (10, false), (11, false), (12, false), (13, false), (14, false), (15, true), (16, true), (17, false), (18, true)] [0, 1, 2] Tryz.mixed (by kernel_rfl) rfl ?_
 refine Mx.r 3 rfl ?_
 refine Mx.q rfl (Qt.lv 1 A52 rfl rfl rfl) rfl ?_
 refine Mx.r 5 rfl ?_
 refine Mx.q rfl (Qt.lv 1 A178 rfl rfl rfl) rfl ?_
 refine Mx.r 1 rfl ?_
 refine Mx.q rfl (Qt.lv 0 A3 rfl rfl rfl) rfl ?_
 refine Mx.q rfl (Qt.lva 0 A66 Z66 rfl rfl rfl) rfl ?_
 refine Mx.r 1 rfl ?_
 refine Mx.q rfl (Qt.ix U52 Z66 rfl (Src.row 2 rfl) (j := 0) (a := [.int .i64 1, .int .i64 2, .int .i64 (-1), .int .i64 50, .int .i64 9, .int .i64 0, .int .i64 1]) rfl rfl rfl) rfl ?_
 refine Mx.l0 rfl (Lo.storeM 2 (j := 0) (off := 0) (vs := [.int .i64 1, .int .i64 2, .int .i64 (-1), .int .i64 50, .int .i64 9, .int .i64 0, .int .i64 1]) (e := [.int .i64 1, .int .i64 2, .int .i64 (-1), .int .i64 50, .int .i64 9, .int .i64 0, .int .i64 1]) [.int .i64 1, .int .i64 2, .int .i64 (-1), .int .i64 50, .int .i64 9, .int .i64 0, .int .i64 1] rfl rfl rfl rfl (by omega) rfl rfl Z66 rfl rfl rfl rfl rfl) ?_
 rintro _ _ rfl
 refine MxK.gp [0, 1, 2] [0, 1, 2] rfl rfl ?_
 refine Mx.l rfl (Lo.mapEnt 3 N178 N3 Y3 rfl rfl rfl) rfl ?_
 rintro _ _ ⟨V299, x300, rfl, rfl⟩
 refine MxK.gp [0, 1, 2] [0, 1, 2] rfl rfl ?_
 refine Mx.r 1 rfl ?_
 refine Mx.l0 rfl (Lo.entSt (u := 0) 3 rfl rfl rfl rfl) ?_
 rintro _ _ rfl
 refine MxK.al [0, 1, 2] rfl (by kernel_rfl) ?_
 refine Mx.nil ?_
 exact J.dn [] [1, 2, 3] rfl trivial rfl ⟨rfl, rfl⟩

set_option maxRecDepth 100000 in
theorem nb152 (g244 : Nat) (b245 : Nat) (V288 : Value) : Tri Tryz.prog 352 #[.pointer (some ⟨g244, 0, none⟩), .int .i64 0, .int .i64 0] [] [var g244 [.map (some b245), .int .i64 1, V288] 294, row V288 66 7 ([[.int .i64 1, .int .i64 2, .int .i64 (-1), .int .i64 50, .int .i64 9, .int .i64 0, .int .i64 1]].map id), mi b245 (Value.int .i64) [(1, 0)]] (fun v L' => v = .tuple #[] ∧ L' = [var g244 [.map (some b245), .int .i64 1, V288] 294, row V288 66 7 ([[.int .i64 1, .int .i64 2, .int .i64 (-1), .int .i64 50, .int .i64 9, .int .i64 0, .int .i64 1]].map id), mi b245 (Value.int .i64) [(1, 0)]]) := by
 refine Tri.en F352 rfl K352 rfl fun w0 => ?_
 refine J.cc 1 rfl ?_
 refine J.drawA Tryz.mixed ?_
 refine A.edge 14 15 rfl ?_ ?_
 ·
  refine A.mx [(0, false), (1, false), (2, false), (3, false), (4, false), (5, false), (6, false), (7, false), (8, false), (9, false), (10, false), (11, false), (12, false), (13, false), (15, true), (14, true), (16, true), (17, true)] [0, 1] (by kernel_rfl) rfl ?_
  refine Mx.r 3 rfl ?_
  refine Mx.q rfl (Qt.lv 0 A52 rfl rfl rfl) rfl ?_
  refine Mx.r 1 rfl ?_
  refine Mx.q rfl (Qt.ix U52 Z66 rfl (Src.row 1 rfl) (j := 0) (a := [.int .i64 1, .int .i64 2, .int .i64 (-1), .int .i64 50, .int .i64 9, .int .i64 0, .int .i64 1]) rfl rfl rfl) rfl ?_
  refine Mx.q rfl (Qt.lea A66 Z66 (Src.row 1 rfl) (j := 0) (a := [.int .i64 1, .int .i64 2, .int .i64 (-1), .int .i64 50, .int .i64 9, .int .i64 0, .int .i64 1]) rfl 0 rfl (by omega) rfl) rfl ?_
  refine Mx.r 3 rfl ?_
  refine Mx.q rfl (Qt.lv 0 A52 rfl rfl rfl) rfl ?_
  refine Mx.r 1 rfl ?_
  refine Mx.q rfl (Qt.ix U52 Z66 rfl (Src.row 1 rfl) (j := 0) (a := [.int .i64 1, .int .i64 2, .int .i64 (-1), .int .i64 50, .int .i64 9, .int .i64 0, .int .i64 1]) rfl rfl rfl) rfl ?_
  refine Mx.q rfl (Qt.lea A66 Z66 (Src.row 1 rfl) (j := 0) (a := [.int .i64 1, .int .i64 2, .int .i64 (-1), .int .i64 50, .int .i64 9, .int .i64 0, .int .i64 1]) rfl 0 rfl (by omega) rfl) rfl ?_
  refine Mx.l rfl (Lo.al Y66 rfl) rfl ?_
  rintro _ _ ⟨g296, rfl, rfl⟩
  refine MxK.gp [1, 2] [0, 1] rfl rfl ?_
  refine Mx.l rfl (Lo.al Y66 rfl) rfl ?_
  rintro _ _ ⟨g297, rfl, rfl⟩
  refine MxK.gp [2, 3] [0, 1] rfl rfl ?_
  refine Mx.l0 rfl (Lo.st 0 Z66 rfl rfl rfl rfl rfl rfl rfl) ?_
  rintro _ _ rfl
  refine MxK.gp [2, 3] [0, 1] rfl rfl ?_
  refine Mx.l0 rfl (Lo.st 1 Z66 rfl rfl rfl rfl rfl rfl rfl) ?_
  rintro _ _ rfl
  refine MxK.al [2, 3] rfl (by kernel_rfl) ?_
  refine Mx.nil ?_
  refine J.co 4 rfl ?_
  refine O.q (Qt.lva 1 A66 Z66 rfl rfl rfl) rfl ?_
  refine O.l (Lo.ca C316 (nb151 g244 b245 V288) [2, 3, 4] rfl rfl .nil) rfl ?_
  rintro _ _ ⟨_, ⟨rfl, rfl⟩, rfl⟩
  refine O.oo 4 rfl ?_
  refine O.q (Qt.lva 3 A66 Z66 rfl rfl rfl) rfl ?_
  refine O.l (Lo.ca C316 (nb151 g244 b245 V288) [0, 1, 2] rfl rfl .nil) rfl ?_
  rintro _ _ ⟨_, ⟨rfl, rfl⟩, rfl⟩
  refine O.oc 1 rfl ?_
  exact J.dn [] [0, 1, 2] rfl trivial rfl ⟨rfl, rfl⟩
 ·
  refine A.mx [(0, false), (1, false), (2, false), (3, false), (4, false), (5, false), (6, false), (7, false), (8, false), (9, false), (10, false), (11, false), (12, false), (13, false), (14, true), (15, true), (16, true), (17, true)] [0, 1] (by kernel_rfl) rfl ?_
  refine Mx.r 3 rfl ?_
  refine Mx.q rfl (Qt.lv 0 A52 rfl rfl rfl) rfl ?_
  refine Mx.r 1 rfl ?_
  refine Mx.q rfl (Qt.ix U52 Z66 rfl (Src.row 1 rfl) (j := 0) (a := [.int .i64 1, .int .i64 2, .int .i64 (-1), .int .i64 50, .int .i64 9, .int .i64 0, .int .i64 1]) rfl rfl rfl) rfl ?_
  refine Mx.q rfl (Qt.lea A66 Z66 (Src.row 1 rfl) (j := 0) (a := [.int .i64 1, .int .i64 2, .int .i64 (-1), .int .i64 50, .int .i64 9, .int .i64 0, .int .i64 1]) rfl 0 rfl (by omega) rfl) rfl ?_
  refine Mx.r 3 rfl ?_
  refine Mx.q rfl (Qt.lv 0 A52 rfl rfl rfl) rfl ?_
  refine Mx.r 1 rfl ?_
  refine Mx.q rfl (Qt.ix U52 Z66 rfl (Src.row 1 rfl) (j := 0) (a := [.int .i64 1, .int .i64 2, .int .i64 (-1), .int .i64 50, .int .i64 9, .int .i64 0, .int .i64 1]) rfl rfl rfl) rfl ?_
  refine Mx.q rfl (Qt.lea A66 Z66 (Src.row 1 rfl) (j := 0) (a := [.int .i64 1, .int .i64 2, .int .i64 (-1), .int .i64 50, .int .i64 9, .int .i64 0, .int .i64 1]) rfl 0 rfl (by omega) rfl) rfl ?_
  refine Mx.l rfl (Lo.al Y66 rfl) rfl ?_
  rintro _ _ ⟨g301, rfl, rfl⟩
  refine MxK.gp [1, 2] [0, 1] rfl rfl ?_
  refine Mx.l rfl (Lo.al Y66 rfl) rfl ?_
  rintro _ _ ⟨g302, rfl, rfl⟩
  refine MxK.gp [2, 3] [0, 1] rfl rfl ?_
  refine Mx.l0 rfl (Lo.st 1 Z66 rfl rfl rfl rfl rfl rfl rfl) ?_
  rintro _ _ rfl
  refine MxK.gp [2, 3] [0, 1] rfl rfl ?_
  refine Mx.l0 rfl (Lo.st 0 Z66 rfl rfl rfl rfl rfl rfl rfl) ?_
  rintro _ _ rfl
  refine MxK.al [2, 3] rfl (by kernel_rfl) ?_
  refine Mx.nil ?_
  refine J.co 4 rfl ?_
  refine O.q (Qt.lva 0 A66 Z66 rfl rfl rfl) rfl ?_
  refine O.l (Lo.ca C316 (nb151 g244 b245 V288) [2, 3, 4] rfl rfl .nil) rfl ?_
  rintro _ _ ⟨_, ⟨rfl, rfl⟩, rfl⟩
  refine O.oo 4 rfl ?_
  refine O.q (Qt.lva 4 A66 Z66 rfl rfl rfl) rfl ?_
  refine O.l (Lo.ca C316 (nb151 g244 b245 V288) [0, 1, 2] rfl rfl .nil) rfl ?_
  rintro _ _ ⟨_, ⟨rfl, rfl⟩, rfl⟩
  refine O.oc 1 rfl ?_
  exact J.dn [] [0, 1, 2] rfl trivial rfl ⟨rfl, rfl⟩

set_option maxRecDepth 100000 in
theorem nb153 (g244 : Nat) (b245 : Nat) (V288 : Value) : Tri Tryz.prog 353 #[.pointer (some ⟨g244, 0, none⟩), .int .i64 1] [] [var g244 [.map (some b245), .int .i64 1, vcut V288 7 0 (0 : Int).toNat] 294, mi b245 (Value.int .i64) [(1, 0)]] (fun v L' => v = .tuple #[] ∧ L' = [var g244 [.map (some b245), .int .i64 1, vcut V288 7 0 (0 : Int).toNat] 294, mi b245 (Value.int .i64) ([] : List (Int × Int))]) := by
 refine Tri.en F353 rfl K353 rfl fun w0 => ?_
 refine J.co 4 rfl ?_
 refine O.q (Qt.lv 0 A178 rfl rfl rfl) rfl ?_
 refine O.oo 1 rfl ?_
 refine O.l0 (Lo.mapDel 1 rfl N178 N3 rfl rfl rfl) ?_
 rintro _ _ rfl
 refine O.oc 1 rfl ?_
 exact J.dn [] [0, 1] rfl trivial rfl ⟨rfl, rfl⟩

set_option maxRecDepth 100000 in
theorem nb154 (g244 : Nat) (b245 : Nat) (V288 : Value) : Tri Tryz.prog 321 #[.pointer (some ⟨g244, 0, none⟩), .int .i64 0] [] [var g244 [.map (some b245), .int .i64 1, V288] 294, row V288 66 7 ([[.int .i64 1, .int .i64 2, .int .i64 (-1), .int .i64 50, .int .i64 9, .int .i64 0, .int .i64 1]].map id), mi b245 (Value.int .i64) [(1, 0)]] (fun v L' => v = .tuple #[.agg #[.int .i64 1, .int .i64 2, .int .i64 (-1), .int .i64 50, .int .i64 9, .int .i64 0, .int .i64 1], .bool true] ∧ L' = [var g244 [.map (some b245), .int .i64 1, vcut V288 7 0 (0 : Int).toNat] 294, mi b245 (Value.int .i64) ([] : List (Int × Int)), row (vcut V288 7 0 (0 : Int).toNat) 66 7 (([] : List (List Value)).map id)]) := by
 refine Tri.en F321 rfl K321 rfl fun w0 => ?_
 refine J.co 2 rfl ?_
 refine O.l (Lo.al Y66 rfl) rfl ?_
 rintro _ _ ⟨g294, rfl, rfl⟩
 refine O.oc 3 rfl ?_
 refine J.dm [(0, false), (1, false), (2, false), (3, false), (4, false), (5, false), (6, false), (7, false), (8, false), (9, false), (10, false), (11, false), (12, false), (13, true), (14, true), (15, false)] [1, 2] Tryz.mixed (by kernel_rfl) rfl ?_
 refine Mx.r 3 rfl ?_
 refine Mx.q rfl (Qt.lv 0 A52 rfl rfl rfl) rfl ?_
 refine Mx.r 1 rfl ?_
 refine Mx.q rfl (Qt.ix U52 Z66 rfl (Src.row 1 rfl) (j := 0) (a := [.int .i64 1, .int .i64 2, .int .i64 (-1), .int .i64 50, .int .i64 9, .int .i64 0, .int .i64 1]) rfl rfl rfl) rfl ?_
 refine Mx.q rfl (Qt.lea A66 Z66 (Src.row 1 rfl) (j := 0) (a := [.int .i64 1, .int .i64 2, .int .i64 (-1), .int .i64 50, .int .i64 9, .int .i64 0, .int .i64 1]) rfl 0 rfl (by omega) rfl) rfl ?_
 refine Mx.r 3 rfl ?_
 refine Mx.q rfl (Qt.lv 0 A52 rfl rfl rfl) rfl ?_
 refine Mx.q rfl (Qt.lenM U52 rfl (Src.row 1 rfl)) rfl ?_
 refine Mx.p rfl (Pu.sub' rfl rfl (by decide)) rfl ?_
 refine Mx.l rfl (Lo.al Y66 rfl) rfl ?_
 rintro _ _ ⟨g295, rfl, rfl⟩
 refine MxK.gp [2, 3] [0, 1] rfl rfl ?_
 refine Mx.l0 rfl (Lo.st 0 Z66 rfl rfl rfl rfl rfl rfl rfl) ?_
 rintro _ _ rfl
 refine MxK.gp [2, 3] [0, 1] rfl rfl ?_
 refine Mx.r 1 rfl ?_
 refine Mx.nil ?_
 refine J.co 5 rfl ?_
 refine O.l (Lo.ca C352 (nb152 g244 b245 V288) [2, 3, 4] rfl rfl .nil) rfl ?_
 rintro _ _ ⟨_, ⟨rfl, rfl⟩, rfl⟩
 refine O.oo 7 rfl ?_
 refine O.q (Qt.lv 0 A52 rfl rfl rfl) rfl ?_
 refine O.oo 1 rfl ?_
 refine O.l (Lo.headRow 1 U52 Z66 rfl rfl rfl (by decide) (by decide)) rfl ?_
 rintro _ _ ⟨rfl, rfl⟩
 refine O.oo 2 rfl ?_
 refine O.one (Src.row 1 rfl) (fun hV303 => ?_)
 refine O.l0 (Lo.so 0 Z52 hV303 rfl rfl rfl rfl) ?_
 rintro _ _ rfl
 refine O.oc 2 rfl ?_
 refine J.drawTail 5 Tryz.mixed (by kernel_rfl) ?_
 refine S.r 4 rfl ?_
 refine S.q (Qt.lv 3 A3 rfl rfl rfl) rfl ?_
 refine S.endO ?_
 refine O.l (Lo.ca C353 (nb153 g244 b245 V288) [0, 2] rfl rfl .nil) rfl ?_
 rintro _ _ ⟨_, ⟨rfl, rfl⟩, rfl⟩
 refine O.oo 12 rfl ?_
 refine O.q (Qt.lva 3 A66 Z66 rfl rfl rfl) rfl ?_
 refine O.l0 (Lo.st 4 Z66 rfl rfl rfl rfl rfl rfl rfl) ?_
 rintro _ _ rfl
 refine O.oc 2 rfl ?_
 exact J.rn [_, _] [0, 1, 2] rfl ⟨⟨_, _, 0, 0, _, rfl, Cel.var 4 rfl, rfl, Cut.agg _ A66 Z66 rfl rfl⟩, rfl, trivial⟩ rfl ⟨rfl, rfl⟩

set_option maxRecDepth 100000 in
theorem nb155 (g244 : Nat) (b245 : Nat) (V288 : Value) : Tri Tryz.prog 266 #[.pointer (some ⟨g244, 0, none⟩)] [] [var g244 [.map (some b245), .int .i64 1, V288] 294, row V288 66 7 ([[.int .i64 1, .int .i64 2, .int .i64 (-1), .int .i64 50, .int .i64 9, .int .i64 0, .int .i64 1]].map id), mi b245 (Value.int .i64) [(1, 0)]] (fun v L' => v = .tuple #[.agg #[.int .i64 1, .int .i64 2, .int .i64 (-1), .int .i64 50, .int .i64 9, .int .i64 0, .int .i64 1], .bool true] ∧ L' = [var g244 [.map (some b245), .int .i64 1, vcut V288 7 0 (0 : Int).toNat] 294, mi b245 (Value.int .i64) ([] : List (Int × Int)), row (vcut V288 7 0 (0 : Int).toNat) 66 7 (([] : List (List Value)).map id)]) := by
 refine Tri.en F266 rfl K266 rfl fun w0 => ?_
 refine J.co 2 rfl ?_
 refine O.l (Lo.al Y66 rfl) rfl ?_
 rintro _ _ ⟨g293, rfl, rfl⟩
 refine O.oo 6 rfl ?_
 refine O.l (Lo.ca C219 (nb150 g244 b245 V288) [1, 2] rfl rfl .nil) rfl ?_
 rintro _ _ ⟨_, ⟨rfl, rfl⟩, rfl⟩
 refine O.oo 7 rfl ?_
 refine O.l (Lo.ca C321 (nb154 g244 b245 V288) [0, 1, 3] rfl rfl .nil) rfl ?_
 rintro _ _ ⟨_, ⟨rfl, rfl⟩, rfl⟩
 refine O.oo 2 rfl ?_
 refine O.l0 (Lo.st 3 Z66 rfl rfl rfl rfl rfl rfl rfl) ?_
 rintro _ _ rfl
 refine O.oc 2 rfl ?_
 exact J.rn [_, _] [0, 1, 2] rfl ⟨⟨_, _, 0, 0, _, rfl, Cel.var 3 rfl, rfl, Cut.agg _ A66 Z66 rfl rfl⟩, rfl, trivial⟩ rfl ⟨rfl, rfl⟩

set_option maxRecDepth 100000 in
theorem nb156 (g243 : Nat) (g244 : Nat) (b245 : Nat) (V288 : Value) : Tri Tryz.prog 184 #[.pointer (some ⟨g243, 0, none⟩)] [] [var g243 [.pointer (some ⟨g244, 0, none⟩), .int .i64 1] 206, var g244 [.map (some b245), .int .i64 1, V288] 294, row V288 66 7 ([[.int .i64 1, .int .i64 2, .int .i64 (-1), .int .i64 50, .int .i64 9, .int .i64 0, .int .i64 1]].map id), mi b245 (Value.int .i64) [(1, 0)]] (fun v L' => v = .tuple #[.agg #[.int .i64 1, .int .i64 2, .int .i64 (-1), .int .i64 50, .int .i64 9, .int .i64 0, .int .i64 1], .bool true] ∧ L' = [var g243 [.pointer (some ⟨g244, 0, none⟩), .int .i64 1] 206, var g244 [.map (some b245), .int .i64 1, vcut V288 7 0 (0 : Int).toNat] 294, mi b245 (Value.int .i64) ([] : List (Int × Int)), row (vcut V288 7 0 (0 : Int).toNat) 66 7 (([] : List (List Value)).map id)]) := by
 refine Tri.en F184 rfl K184 rfl fun w0 => ?_
 refine J.co 2 rfl ?_
 refine O.l (Lo.al Y66 rfl) rfl ?_
 rintro _ _ ⟨g292, rfl, rfl⟩
 refine O.oo 5 rfl ?_
 refine O.l (Lo.ca C114 (nb115 g243 g244) [1] rfl rfl .nil) rfl ?_
 rintro _ _ ⟨_, ⟨rfl, rfl⟩, rfl⟩
 refine O.l (Lo.ca C266 (nb155 g244 b245 V288) [2, 3, 4] rfl rfl .nil) rfl ?_
 rintro _ _ ⟨_, ⟨rfl, rfl⟩, rfl⟩
 refine O.oo 2 rfl ?_
 refine O.l0 (Lo.st 4 Z66 rfl rfl rfl rfl rfl rfl rfl) ?_
 rintro _ _ rfl
 refine O.oc 2 rfl ?_
 exact J.rn [_, _] [3, 0, 1, 2] rfl ⟨⟨_, _, 0, 0, _, rfl, Cel.var 4 rfl, rfl, Cut.agg _ A66 Z66 rfl rfl⟩, rfl, trivial⟩ rfl ⟨rfl, rfl⟩

set_option maxRecDepth 100000 in
theorem nb157 (g246 : Nat) : Tri Tryz.prog 267 #[.pointer (some ⟨g246, 0, none⟩), .int .i64 1] [] [var g246 (.int .i64 1 :: (rp 16 (Value.pointer none) [])) 210] (fun v L' => v = .tuple #[.int .i64 0, .bool false] ∧ L' = [var g246 (.int .i64 1 :: (rp 16 (Value.pointer none) [])) 210]) := by
 refine Tri.en F267 rfl K267 rfl fun w0 => ?_
 refine J.co 9 rfl ?_
 refine O.l (Lo.ca C116 (nb146 g246) [0] rfl rfl .nil) rfl ?_
 rintro _ _ ⟨_, ⟨rfl, rfl⟩, rfl⟩
 refine O.oc 3 rfl ?_
 refine J.un ?_
 refine J.co 20 rfl ?_
 refine O.p (Pu.indexAddrK 1 U208 Z207 rfl rfl (by decide) (by decide) rfl) rfl ?_
 refine O.q (Qt.lv 0 A207 rfl rfl rfl) rfl ?_
 refine O.oo 5 rfl ?_
 refine O.p (Pu.ptrNeNil N207 rfl) rfl ?_
 refine O.oo 13 rfl ?_
 refine O.p (Pu.add' rfl rfl (by decide)) rfl ?_
 refine O.oc 2 rfl ?_
 refine J.again ?_
 refine J.cc 12 rfl ?_
 exact J.rn [_, _] [0] rfl ⟨rfl, rfl, trivial⟩ rfl ⟨rfl, rfl⟩

set_option maxRecDepth 100000 in
theorem nb158 (g246 : Nat) : Tri Tryz.prog 185 #[.pointer (some ⟨g246, 0, none⟩), .agg #[.int .i64 1, .int .i64 2, .int .i64 (-1), .int .i64 50, .int .i64 9, .int .i64 0, .int .i64 1]] [] [var g246 (.int .i64 1 :: (rp 16 (Value.pointer none) [])) 210] (fun v L' => ∃ (g305 : Nat), v = .tuple #[.int .i64 0, .int .i64 0] ∧ L' = [var g246 (.int .i64 1 :: .pointer (some ⟨g305, 0, none⟩) :: (rp 15 (Value.pointer none) [])) 210, var g305 [.int .i64 1, .int .i64 2, .int .i64 (-1), .int .i64 50, .int .i64 9, .int .i64 0, .int .i64 1] 66]) := by
 refine Tri.en F185 rfl K185 rfl fun w0 => ?_
 refine J.co 2 rfl ?_
 refine O.l (Lo.bx rfl rfl) rfl ?_
 rintro _ _ ⟨g305, rfl, rfl⟩
 refine O.oo 8 rfl ?_
 refine O.q (Qt.lv 0 A3 rfl rfl rfl) rfl ?_
 refine O.l (Lo.ca C267 (nb157 g246) [1] rfl rfl .nil) rfl ?_
 rintro _ _ ⟨_, ⟨rfl, rfl⟩, rfl⟩
 refine O.oo 16 rfl ?_
 refine O.l (Lo.ca C116 (nb146 g246) [0] rfl rfl .nil) rfl ?_
 rintro _ _ ⟨_, ⟨rfl, rfl⟩, rfl⟩
 refine O.oc 3 rfl ?_
 refine J.un ?_
 refine J.co 20 rfl ?_
 refine O.p (Pu.indexAddrK 1 U208 Z207 rfl rfl (by decide) (by decide) rfl) rfl ?_
 refine O.q (Qt.lv 0 A207 rfl rfl rfl) rfl ?_
 refine O.p (Pu.nilEq N207 rfl) rfl ?_
 refine O.oo 8 rfl ?_
 refine O.p (Pu.indexAddrK 1 U208 Z207 rfl rfl (by decide) (by decide) rfl) rfl ?_
 refine O.l0 (Lo.st 0 Z207 rfl rfl rfl rfl rfl rfl rfl) ?_
 rintro _ _ rfl
 refine O.oc 7 rfl ?_
 exact J.rn [_, _] [0, 1] rfl ⟨rfl, rfl, trivial⟩ rfl ⟨g305, rfl, rfl⟩

set_option maxRecDepth 100000 in
theorem nb159 : Tri Tryz.prog 186 #[.agg #[.int .i64 1, .int .i64 2, .int .i64 (-1), .int .i64 50, .int .i64 9, .int .i64 0, .int .i64 1]] [] [] (fun v L' => v = .agg #[.int .i64 1, .int .i64 2, .int .i64 (-1), .int .i64 50, .int .i64 9, .int .i64 0, .int .i64 1, .int .i64 1, Value.slice none 0 0] ∧ L' = []) := by
 refine Tri.en F186 rfl K186 rfl fun w0 => ?_
 refine J.co 2 rfl ?_
 refine O.l (Lo.bx rfl rfl) rfl ?_
 rintro _ _ ⟨g306, rfl, rfl⟩
 refine O.l (Lo.al Y68 rfl) rfl ?_
 rintro _ _ ⟨g307, rfl, rfl⟩
 refine O.oo 3 rfl ?_
 refine O.q (Qt.lva 1 A66 Z66 rfl rfl rfl) rfl ?_
 refine O.p (Pu.build [(0, .agg #[.int .i64 1, .int .i64 2, .int .i64 (-1), .int .i64 50, .int .i64 9, .int .i64 0, .int .i64 1]), (1, .int .i64 1)] [.int .i64 1, .int .i64 2, .int .i64 (-1), .int .i64 50, .int .i64 9, .int .i64 0, .int .i64 1, .int .i64 1, Value.slice none 0 0] #[(0, 7), (7, 1), (8, 1)] U68 Y68 (places68 N68) rfl (by kernel_rfl)) rfl ?_
 refine O.l0 (Lo.st 0 Z68 rfl rfl rfl rfl rfl rfl rfl) ?_
 rintro _ _ rfl
 refine O.oc 1 rfl ?_
 exact J.rn [_] [] rfl ⟨⟨_, _, 0, 0, _, rfl, Cel.var 0 rfl, rfl, Cut.agg _ A68 Z68 rfl rfl⟩, trivial⟩ rfl ⟨rfl, rfl⟩

set_option maxRecDepth 100000 in
theorem nb160 : Tri Tryz.prog 199 #[.int .i64 0, .int .i64 1099511627776] [] [] (fun v L' => v = .int .i64 0 ∧ L' = []) := by
 refine Tri.en F199 rfl K199 rfl fun w0 => ?_
 refine J.co 8 rfl ?_
 refine O.p (Pu.min rfl rfl) rfl ?_
 refine O.p (Pu.max rfl rfl) rfl ?_
 refine O.oc 2 rfl ?_
 exact J.r0 rfl rfl ⟨rfl, rfl⟩

set_option maxRecDepth 100000 in
theorem nb161 : Tri Tryz.prog 268 #[.int .i64 0, .int .i64 0] [] [] (fun v L' => v = .int .i64 0 ∧ L' = []) := by
 refine Tri.en F268 rfl K268 rfl fun w0 => ?_
 refine J.co 8 rfl ?_
 refine O.p (Pu.sub' rfl rfl (by decide)) rfl ?_
 refine O.oc 2 rfl ?_
 exact J.r0 rfl rfl ⟨rfl, rfl⟩

set_option maxRecDepth 100000 in
theorem nb162 : Tri Tryz.prog 204 #[.int .i64 0, .int .i64 0, .func (.func 268) #[] #[]] [] [] (fun v L' => v = .int .i64 0 ∧ L' = []) := by
 refine Tri.en F204 rfl K204 rfl fun w0 => ?_
 refine J.co 8 rfl ?_
 refine O.l (Lo.ca C199 nb160 [] rfl rfl .nil) rfl ?_
 rintro _ _ ⟨_, ⟨rfl, rfl⟩, rfl⟩
 refine O.oo 1 rfl ?_
 refine O.l (Lo.ca C199 nb160 [] rfl rfl .nil) rfl ?_
 rintro _ _ ⟨_, ⟨rfl, rfl⟩, rfl⟩
 refine O.l (Lo.cv C268 rfl rfl nb161 [] rfl .nil) rfl ?_
 rintro _ _ ⟨_, ⟨rfl, rfl⟩, rfl⟩
 refine O.l (Lo.ca C199 nb160 [] rfl rfl .nil) rfl ?_
 rintro _ _ ⟨_, ⟨rfl, rfl⟩, rfl⟩
 refine O.oc 2 rfl ?_
 exact J.r0 rfl rfl ⟨rfl, rfl⟩

set_option maxRecDepth 100000 in
theorem nb163 : Tri Tryz.prog 187 #[.int .i64 0, .int .i64 0] [] [] (fun v L' => v = .int .i64 0 ∧ L' = []) := by
 refine Tri.en F187 rfl K187 rfl fun w0 => ?_
 refine J.co 8 rfl ?_
 refine O.l (Lo.ca C204 nb162 [] rfl rfl .nil) rfl ?_
 rintro _ _ ⟨_, ⟨rfl, rfl⟩, rfl⟩
 refine O.oc 2 rfl ?_
 exact J.r0 rfl rfl ⟨rfl, rfl⟩

set_option maxRecDepth 100000 in
theorem nb164 : Tri Tryz.prog 205 #[.int .i64 0, .int .i64 0] [] [] (fun v L' => v = .int .i64 0 ∧ L' = []) := by
 refine Tri.en F205 rfl K205 rfl fun w0 => ?_
 refine J.co 8 rfl ?_
 refine O.p (Pu.add' rfl rfl (by decide)) rfl ?_
 refine O.oc 2 rfl ?_
 exact J.r0 rfl rfl ⟨rfl, rfl⟩

set_option maxRecDepth 100000 in
theorem nb165 : Tri Tryz.prog 226 #[.int .i64 0, .int .i64 0, .func (.func 205) #[] #[]] [] [] (fun v L' => v = .int .i64 0 ∧ L' = []) := by
 refine Tri.en F226 rfl K226 rfl fun w0 => ?_
 refine J.co 8 rfl ?_
 refine O.l (Lo.ca C199 nb125 [] rfl rfl .nil) rfl ?_
 rintro _ _ ⟨_, ⟨rfl, rfl⟩, rfl⟩
 refine O.oo 1 rfl ?_
 refine O.l (Lo.ca C199 nb125 [] rfl rfl .nil) rfl ?_
 rintro _ _ ⟨_, ⟨rfl, rfl⟩, rfl⟩
 refine O.l (Lo.cv C205 rfl rfl nb164 [] rfl .nil) rfl ?_
 rintro _ _ ⟨_, ⟨rfl, rfl⟩, rfl⟩
 refine O.l (Lo.ca C199 nb125 [] rfl rfl .nil) rfl ?_
 rintro _ _ ⟨_, ⟨rfl, rfl⟩, rfl⟩
 refine O.oc 2 rfl ?_
 exact J.r0 rfl rfl ⟨rfl, rfl⟩

set_option maxRecDepth 100000 in
theorem nb166 : Tri Tryz.prog 288 #[.int .i64 0, .int .i64 0] [] [] (fun v L' => v = .int .i64 0 ∧ L' = []) := by
 refine Tri.en F288 rfl K288 rfl fun w0 => ?_
 refine J.co 8 rfl ?_
 refine O.l (Lo.ca C226 nb165 [] rfl rfl .nil) rfl ?_
 rintro _ _ ⟨_, ⟨rfl, rfl⟩, rfl⟩
 refine O.oc 2 rfl ?_
 exact J.r0 rfl rfl ⟨rfl, rfl⟩

set_option maxRecDepth 100000 in
theorem nb167 (g239 : Nat) : Tri Tryz.prog 269 #[.pointer (some ⟨g239, 0, none⟩), .int .i64 0] [] [var g239 [.int .i64 0, .int .i64 0, .int .i64 0] 311] (fun v L' => v = .tuple #[] ∧ L' = [var g239 [.int .i64 1, .int .i64 0, .int .i64 0] 311]) := by
 refine Tri.en F269 rfl K269 rfl fun w0 => ?_
 refine J.co 4 rfl ?_
 refine O.p (Pu.someEq N170 rfl) rfl ?_
 refine O.oc 4 rfl ?_
 refine J.dm [(0, false), (1, false), (2, false), (3, false), (4, false), (5, false), (7, false), (8, false), (6, true), (9, false), (10, true)] [0] Tryz.mixed (by kernel_rfl) rfl ?_
 refine Mx.r 4 rfl ?_
 refine Mx.p rfl (Pu.indexAddrK 0 U95 Z3 rfl rfl (by decide) (by decide) rfl) rfl ?_
 refine Mx.q rfl (Qt.lv 0 A3 rfl rfl rfl) rfl ?_
 refine Mx.r 2 rfl ?_
 refine Mx.l rfl (Lo.ca C288 nb129 [] rfl rfl .nil) rfl ?_
 rintro _ _ ⟨_, ⟨rfl, rfl⟩, rfl⟩
 refine MxK.gp [0] [0] rfl rfl ?_
 refine Mx.p rfl (Pu.indexAddrK 0 U95 Z3 rfl rfl (by decide) (by decide) rfl) rfl ?_
 refine Mx.l0 rfl (Lo.st 0 Z3 rfl rfl rfl rfl rfl rfl rfl) ?_
 rintro _ _ rfl
 refine MxK.al [0] rfl (by kernel_rfl) ?_
 refine Mx.nil ?_
 refine J.cc 1 rfl ?_
 refine J.dm [(0, false), (1, false), (2, false), (3, false), (4, false), (5, false), (6, false), (8, false), (9, false), (7, true), (10, false), (11, true)] [0] Tryz.mixed (by kernel_rfl) rfl ?_
 refine Mx.r 4 rfl ?_
 refine Mx.p rfl (Pu.indexAddrK 1 U95 Z3 rfl rfl (by decide) (by decide) rfl) rfl ?_
 refine Mx.q rfl (Qt.lv 0 A3 rfl rfl rfl) rfl ?_
 refine Mx.r 3 rfl ?_
 refine Mx.l rfl (Lo.ca C288 nb166 [] rfl rfl .nil) rfl ?_
 rintro _ _ ⟨_, ⟨rfl, rfl⟩, rfl⟩
 refine MxK.gp [0] [0] rfl rfl ?_
 refine Mx.p rfl (Pu.indexAddrK 1 U95 Z3 rfl rfl (by decide) (by decide) rfl) rfl ?_
 refine Mx.l0 rfl (Lo.st 0 Z3 rfl rfl rfl rfl rfl rfl rfl) ?_
 rintro _ _ rfl
 refine MxK.al [0] rfl (by kernel_rfl) ?_
 refine Mx.nil ?_
 refine J.dm [(0, false), (1, false), (2, false), (3, false), (4, false), (5, false), (6, false), (9, false), (10, false), (7, true), (8, false), (11, false), (12, true)] [0] Tryz.mixed (by kernel_rfl) rfl ?_
 refine Mx.r 4 rfl ?_
 refine Mx.p rfl (Pu.indexAddrK 2 U95 Z3 rfl rfl (by decide) (by decide) rfl) rfl ?_
 refine Mx.q rfl (Qt.lv 0 A3 rfl rfl rfl) rfl ?_
 refine Mx.r 3 rfl ?_
 refine Mx.l rfl (Lo.ca C199 nb125 [] rfl rfl .nil) rfl ?_
 rintro _ _ ⟨_, ⟨rfl, rfl⟩, rfl⟩
 refine MxK.gp [0] [0] rfl rfl ?_
 refine Mx.p rfl (Pu.max rfl rfl) rfl ?_
 refine Mx.p rfl (Pu.indexAddrK 2 U95 Z3 rfl rfl (by decide) (by decide) rfl) rfl ?_
 refine Mx.l0 rfl (Lo.st 0 Z3 rfl rfl rfl rfl rfl rfl rfl) ?_
 rintro _ _ rfl
 refine MxK.al [0] rfl (by kernel_rfl) ?_
 refine Mx.nil ?_
 exact J.dn [] [0] rfl trivial rfl ⟨rfl, rfl⟩

set_option maxRecDepth 100000 in
theorem nb168 (g235 : Nat) (g236 : Nat) (g237 : Nat) (g238 : Nat) (g239 : Nat) : Tri Tryz.prog 188 #[.pointer (some ⟨g235, 0, none⟩), .int .i64 0] [] [var g235 [.pointer (some ⟨g236, 0, none⟩), .pointer (some ⟨g237, 0, none⟩), .int .i64 8, .int .i64 1, .int .i64 1, .int .i64 4, .int .i64 10, .int .i64 5, .int .i64 1, .int .i64 3, .int .i64 2, .pointer (some ⟨g238, 0, none⟩), .pointer (some ⟨g239, 0, none⟩), .int .i64 8, .int .i64 1] 172, var g239 [.int .i64 0, .int .i64 0, .int .i64 0] 311] (fun v L' => v = .tuple #[] ∧ L' = [var g235 [.pointer (some ⟨g236, 0, none⟩), .pointer (some ⟨g237, 0, none⟩), .int .i64 8, .int .i64 1, .int .i64 1, .int .i64 4, .int .i64 10, .int .i64 5, .int .i64 1, .int .i64 3, .int .i64 2, .pointer (some ⟨g238, 0, none⟩), .pointer (some ⟨g239, 0, none⟩), .int .i64 8, .int .i64 1] 172, var g239 [.int .i64 1, .int .i64 0, .int .i64 0] 311]) := by
 refine Tri.en F188 rfl K188 rfl fun w0 => ?_
 refine J.co 3 rfl ?_
 refine O.l (Lo.ca C173 (nb123 g235 g236 g237 g238 g239) [0] rfl rfl .nil) rfl ?_
 rintro _ _ ⟨_, ⟨rfl, rfl⟩, rfl⟩
 refine O.oo 6 rfl ?_
 refine O.q (Qt.lv 0 A170 rfl rfl rfl) rfl ?_
 refine O.oo 1 rfl ?_
 refine O.l (Lo.ca C269 (nb167 g239) [1] rfl rfl .nil) rfl ?_
 rintro _ _ ⟨_, ⟨rfl, rfl⟩, rfl⟩
 refine O.oc 1 rfl ?_
 exact J.dn [] [1, 0] rfl trivial rfl ⟨rfl, rfl⟩

set_option maxRecDepth 100000 in
theorem nb169 (g253 : Nat) (g228 : Nat) (V270 : Value) (g235 : Nat) (V230 : Value) (V233 : Value) (g240 : Nat) (g243 : Nat) (g246 : Nat) (b224 : Nat) (g225 : Nat) (g247 : Nat) : Tri Tryz.prog 80 #[.pointer (some ⟨g253, 0, none⟩), .int .i64 3, .int .i64 1, .int .i64 0, .int .i64 0, .int .i64 50] [] [var g253 [.pointer (some ⟨g228, 0, none⟩), V270, Value.slice none 0 0] 261, var g228 [.pointer (some ⟨g235, 0, none⟩), .int .i64 2, .int .i64 4, .int .i64 1000, .int .u64 1, V230, .int .i64 0, .int .i64 1, .int .i64 1, .int .i64 10, .int .i64 1, .int .i64 64, .int .i64 20, .int .i64 1, .int .i64 4, .int .i64 10, .int .i64 5, .int .i64 1, .int .i64 3, .int .i64 2, V233, .int .i64 0, .int .i64 0, .int .i64 1, .int .i64 0, .pointer (some ⟨g240, 0, none⟩), .pointer (some ⟨g243, 0, none⟩), .pointer (some ⟨g246, 0, none⟩), .map (some b224), .pointer (some ⟨g225, 0, none⟩), .pointer (some ⟨g247, 0, none⟩)] 90, row V270 51 7 ([[.int .i64 1, .int .i64 0, .int .i64 0, .int .i64 1, .int .i64 0, .int .i64 2, .int .i64 8]].map id)] (fun v L' => ∃ (V309 : Value), v = .tuple #[] ∧ L' = [var g253 [.pointer (some ⟨g228, 0, none⟩), V309, Value.slice none 0 0] 261, var g228 [.pointer (some ⟨g235, 0, none⟩), .int .i64 2, .int .i64 4, .int .i64 1000, .int .u64 1, V230, .int .i64 0, .int .i64 1, .int .i64 1, .int .i64 10, .int .i64 1, .int .i64 64, .int .i64 20, .int .i64 1, .int .i64 4, .int .i64 10, .int .i64 5, .int .i64 1, .int .i64 3, .int .i64 2, V233, .int .i64 0, .int .i64 0, .int .i64 1, .int .i64 0, .pointer (some ⟨g240, 0, none⟩), .pointer (some ⟨g243, 0, none⟩), .pointer (some ⟨g246, 0, none⟩), .map (some b224), .pointer (some ⟨g225, 0, none⟩), .pointer (some ⟨g247, 0, none⟩)] 90, row V309 51 7 ([[.int .i64 1, .int .i64 0, .int .i64 0, .int .i64 1, .int .i64 0, .int .i64 2, .int .i64 8], [.int .i64 3, .int .i64 0, .int .i64 0, .int .i64 1, .int .i64 0, .int .i64 0, .int .i64 50]].map id)]) := by
 refine Tri.en F80 rfl K80 rfl fun w0 => ?_
 refine J.dm [(0, false), (1, false), (2, false), (3, false), (4, false), (5, false), (6, false), (7, false), (8, false), (9, false), (10, false), (11, false), (12, false), (13, false), (14, false), (15, false), (16, false), (17, false), (18, false), (19, false), (20, false), (21, false), (22, false), (23, false), (24, false), (25, false), (26, true), (27, true), (28, false), (29, false), (30, false), (31, true)] [0, 1] Tryz.mixed (by kernel_rfl) rfl ?_
 refine Mx.r 5 rfl ?_
 refine Mx.q rfl (Qt.lv 0 A33 rfl rfl rfl) rfl ?_
 refine Mx.r 4 rfl ?_
 refine Mx.q rfl (Qt.lv 0 A29 rfl rfl rfl) rfl ?_
 refine Mx.r 2 rfl ?_
 refine Mx.q rfl (Qt.lv 1 A3 rfl rfl rfl) rfl ?_
 refine Mx.r 3 rfl ?_
 refine Mx.q rfl (Qt.lv 0 A29 rfl rfl rfl) rfl ?_
 refine Mx.r 2 rfl ?_
 refine Mx.q rfl (Qt.lv 1 A3 rfl rfl rfl) rfl ?_
 refine Mx.r 4 rfl ?_
 refine Mx.p rfl (Pu.build [(0, .int .i64 3), (1, .int .i64 0), (2, .int .i64 0), (3, .int .i64 1), (4, .int .i64 0), (5, .int .i64 0), (6, .int .i64 50)] [.int .i64 3, .int .i64 0, .int .i64 0, .int .i64 1, .int .i64 0, .int .i64 0, .int .i64 50] #[(0, 1), (1, 1), (2, 1), (3, 1), (4, 1), (5, 1), (6, 1)] U51 Y51 (places51 N51) rfl (by kernel_rfl)) rfl ?_
 refine Mx.l rfl (Lo.bm id [[.int .i64 3, .int .i64 0, .int .i64 0, .int .i64 1, .int .i64 0, .int .i64 0, .int .i64 50]] U33 Z51 Y51 rfl rfl rfl (by kernel_rfl) rfl rfl) rfl ?_
 rintro V308 _ rfl
 refine MxK.gp [1, 2] [0, 1] rfl rfl ?_
 refine Mx.l rfl (Lo.am 3 N33 info51 rfl rfl rfl rfl rfl (Src.row 0 rfl) (id_one rfl) (Nat.le_of_ble_eq_true rfl) (Nat.le_of_ble_eq_true rfl)) rfl ?_
 rintro V309 _ rfl
 refine MxK.gp [1, 2] [0, 1] rfl rfl ?_
 refine Mx.r 3 rfl ?_
 refine Mx.one rfl (fun _ h => by cases h <;> rfl) (Src.row 3 rfl) (fun hV310 => ?_)
 refine Mx.l0 rfl (Lo.so 1 Z33 hV310 rfl rfl rfl rfl) ?_
 rintro _ _ rfl
 refine MxK.al [1, 2] rfl (by kernel_rfl) ?_
 refine Mx.nil ?_
 exact J.dn [] [1, 2, 3] rfl trivial rfl ⟨V309, rfl, rfl⟩

set_option maxRecDepth 100000 in
theorem nb170 (g246 : Nat) (g305 : Nat) : Tri Tryz.prog 116 #[.pointer (some ⟨g246, 0, none⟩)] [] [var g246 (.int .i64 1 :: .pointer (some ⟨g305, 0, none⟩) :: (rp 15 (Value.pointer none) [])) 210] (fun v L' => v = .int .i64 1 ∧ L' = [var g246 (.int .i64 1 :: .pointer (some ⟨g305, 0, none⟩) :: (rp 15 (Value.pointer none) [])) 210]) := by
 refine Tri.en F116 rfl K116 rfl fun w0 => ?_
 refine J.co 8 rfl ?_
 refine O.p (Pu.someEq N85 rfl) rfl ?_
 refine O.oo 8 rfl ?_
 refine O.q (Qt.lv 0 A3 rfl rfl rfl) rfl ?_
 refine O.oc 2 rfl ?_
 exact J.r1 [0] rfl rfl rfl ⟨rfl, rfl⟩

set_option maxRecDepth 100000 in
theorem nb171 (g246 : Nat) (g305 : Nat) : Tri Tryz.prog 117 #[.pointer (some ⟨g246, 0, none⟩), .int .i64 0] [] [var g246 (.int .i64 1 :: .pointer (some ⟨g305, 0, none⟩) :: (rp 15 (Value.pointer none) [])) 210, var g305 [.int .i64 1, .int .i64 2, .int .i64 (-1), .int .i64 50, .int .i64 9, .int .i64 0, .int .i64 1] 66] (fun v L' => v = .tuple #[.agg #[.int .i64 1, .int .i64 2, .int .i64 (-1), .int .i64 50, .int .i64 9, .int .i64 0, .int .i64 1], .bool true] ∧ L' = [var g246 (.int .i64 1 :: .pointer (some ⟨g305, 0, none⟩) :: (rp 15 (Value.pointer none) [])) 210, var g305 [.int .i64 1, .int .i64 2, .int .i64 (-1), .int .i64 50, .int .i64 9, .int .i64 0, .int .i64 1] 66]) := by
 refine Tri.en F117 rfl K117 rfl fun w0 => ?_
 refine J.co 2 rfl ?_
 refine O.l (Lo.al Y66 rfl) rfl ?_
 rintro _ _ ⟨g311, rfl, rfl⟩
 refine O.oo 10 rfl ?_
 refine O.gy (Lo.ca C116 (nb170 g246 g305) [1] rfl rfl .nil) rfl rfl ?_
 rintro _ _ ⟨_, ⟨rfl, rfl⟩, rfl⟩
 refine O.oo 7 rfl ?_
 refine O.gz (Pu.qt (Pu.indexAddrK 1 U208 Z207 rfl rfl (by decide) (by decide) rfl)) rfl rfl ?_
 refine O.gz (Qt.lv 0 A207 rfl rfl rfl) rfl rfl ?_
 refine O.gz (Pu.qt (Pu.someEq N207 rfl)) rfl rfl ?_
 refine O.oo 10 rfl ?_
 refine O.p (Pu.indexAddrK 1 U208 Z207 rfl rfl (by decide) (by decide) rfl) rfl ?_
 refine O.q (Qt.lv 0 A207 rfl rfl rfl) rfl ?_
 refine O.oo 1 rfl ?_
 refine O.q (Qt.lva 2 A66 Z66 rfl rfl rfl) rfl ?_
 refine O.l0 (Lo.st 1 Z66 rfl rfl rfl rfl rfl rfl rfl) ?_
 rintro _ _ rfl
 refine O.oc 2 rfl ?_
 exact J.rn [_, _] [0, 2] rfl ⟨⟨_, _, 0, 0, _, rfl, Cel.var 1 rfl, rfl, Cut.agg _ A66 Z66 rfl rfl⟩, rfl, trivial⟩ rfl ⟨rfl, rfl⟩

set_option maxRecDepth 100000 in
theorem nb172 (g246 : Nat) (g305 : Nat) : Tri Tryz.prog 41 #[.pointer (some ⟨g246, 0, none⟩)] [] [var g246 (.int .i64 1 :: .pointer (some ⟨g305, 0, none⟩) :: (rp 15 (Value.pointer none) [])) 210, var g305 [.int .i64 1, .int .i64 2, .int .i64 (-1), .int .i64 50, .int .i64 9, .int .i64 0, .int .i64 1] 66] (fun v L' => ∃ (V314 : Value), v = V314 ∧ L' = [var g246 (.int .i64 1 :: .pointer (some ⟨g305, 0, none⟩) :: (rp 15 (Value.pointer none) [])) 210, var g305 [.int .i64 1, .int .i64 2, .int .i64 (-1), .int .i64 50, .int .i64 9, .int .i64 0, .int .i64 1] 66, row V314 66 7 ([[.int .i64 1, .int .i64 2, .int .i64 (-1), .int .i64 50, .int .i64 9, .int .i64 0, .int .i64 1]].map id)]) := by
 refine Tri.en F41 rfl K41 rfl fun w0 => ?_
 refine J.co 12 rfl ?_
 refine O.l (Lo.ca C116 (nb170 g246 g305) [0] rfl rfl .nil) rfl ?_
 rintro _ _ ⟨_, ⟨rfl, rfl⟩, rfl⟩
 refine O.oc 3 rfl ?_
 refine J.un ?_
 refine J.co 18 rfl ?_
 refine O.l (Lo.ca C117 (nb171 g246 g305) [0, 1] rfl rfl .nil) rfl ?_
 rintro _ _ ⟨_, ⟨rfl, rfl⟩, rfl⟩
 refine O.oo 3 rfl ?_
 refine O.l (Lo.al Y66 rfl) rfl ?_
 rintro _ _ ⟨g312, rfl, rfl⟩
 refine O.l0 (Lo.st 0 Z66 rfl rfl rfl rfl rfl rfl rfl) ?_
 rintro _ _ rfl
 refine O.oo 9 rfl ?_
 refine O.q (Qt.lva 0 A66 Z66 rfl rfl rfl) rfl ?_
 refine O.l (Lo.bm id [[.int .i64 1, .int .i64 2, .int .i64 (-1), .int .i64 50, .int .i64 9, .int .i64 0, .int .i64 1]] U52 Z66 Y66 rfl rfl rfl (by kernel_rfl) rfl rfl) rfl ?_
 rintro V313 _ rfl
 refine O.nr 66 7 (([] : List (List Value)).map id) rfl ?_
 refine O.l (Lo.am 0 N52 info66 rfl rfl rfl rfl rfl (Src.row 1 rfl) (id_one rfl) (Nat.le_of_ble_eq_true rfl) (Nat.le_of_ble_eq_true rfl)) rfl ?_
 rintro V314 _ rfl
 refine O.oo 4 rfl ?_
 refine O.p (Pu.add' rfl rfl (by decide)) rfl ?_
 refine O.oc 2 rfl ?_
 refine J.again ?_
 refine J.cc 12 rfl ?_
 exact J.r1 [3, 4, 0] rfl rfl rfl ⟨V314, rfl, rfl⟩

set_option maxRecDepth 100000 in
theorem nb173 (g246 : Nat) (g305 : Nat) : Tri Tryz.prog 183 #[.pointer (some ⟨g246, 0, none⟩)] [] [var g246 (.int .i64 1 :: .pointer (some ⟨g305, 0, none⟩) :: (rp 15 (Value.pointer none) [])) 210, var g305 [.int .i64 1, .int .i64 2, .int .i64 (-1), .int .i64 50, .int .i64 9, .int .i64 0, .int .i64 1] 66] (fun v L' => v = .int .i64 0 ∧ L' = [var g246 (.int .i64 1 :: .pointer (some ⟨g305, 0, none⟩) :: (rp 15 (Value.pointer none) [])) 210, var g305 [.int .i64 1, .int .i64 2, .int .i64 (-1), .int .i64 50, .int .i64 9, .int .i64 0, .int .i64 1] 66]) := by
 refine Tri.en F183 rfl K183 rfl fun w0 => ?_
 refine J.co 7 rfl ?_
 refine O.l (Lo.ca C116 (nb170 g246 g305) [0] rfl rfl .nil) rfl ?_
 rintro _ _ ⟨_, ⟨rfl, rfl⟩, rfl⟩
 refine O.oo 1 rfl ?_
 refine O.l (Lo.ca C41 (nb172 g246 g305) [0, 1] rfl rfl .nil) rfl ?_
 rintro V314 _ ⟨_, ⟨_, rfl, rfl⟩, rfl⟩
 refine O.q (Qt.lenM U52 rfl (Src.row 2 rfl)) rfl ?_
 refine O.p (Pu.sub' rfl rfl (by decide)) rfl ?_
 refine O.oc 2 rfl ?_
 exact J.r1 [0, 1] rfl rfl rfl ⟨rfl, rfl⟩

set_option maxRecDepth 100000 in
theorem nb174 (g253 : Nat) (g228 : Nat) (V270 : Value) (g235 : Nat) (V230 : Value) (V233 : Value) (g240 : Nat) (g243 : Nat) (g246 : Nat) (b224 : Nat) (g225 : Nat) (g247 : Nat) (g244 : Nat) (b245 : Nat) (V288 : Value) (g236 : Nat) (g237 : Nat) (g238 : Nat) (g239 : Nat) : Tri Tryz.prog 86 #[.pointer (some ⟨g253, 0, none⟩)] [] [var g253 [.pointer (some ⟨g228, 0, none⟩), V270, Value.slice none 0 0] 261, var g228 [.pointer (some ⟨g235, 0, none⟩), .int .i64 2, .int .i64 4, .int .i64 1000, .int .u64 1, V230, .int .i64 0, .int .i64 1, .int .i64 1, .int .i64 10, .int .i64 1, .int .i64 64, .int .i64 20, .int .i64 1, .int .i64 4, .int .i64 10, .int .i64 5, .int .i64 1, .int .i64 3, .int .i64 2, V233, .int .i64 0, .int .i64 0, .int .i64 1, .int .i64 0, .pointer (some ⟨g240, 0, none⟩), .pointer (some ⟨g243, 0, none⟩), .pointer (some ⟨g246, 0, none⟩), .map (some b224), .pointer (some ⟨g225, 0, none⟩), .pointer (some ⟨g247, 0, none⟩)] 90, var g246 (.int .i64 1 :: (rp 16 (Value.pointer none) [])) 210, var g243 [.pointer (some ⟨g244, 0, none⟩), .int .i64 1] 206, var g244 [.map (some b245), .int .i64 1, V288] 294, row V288 66 7 ([[.int .i64 1, .int .i64 2, .int .i64 (-1), .int .i64 50, .int .i64 9, .int .i64 0, .int .i64 1]].map id), mi b245 (Value.int .i64) [(1, 0)], mi b224 (id : Value → Value) ([] : List (Int × Value)), var g235 [.pointer (some ⟨g236, 0, none⟩), .pointer (some ⟨g237, 0, none⟩), .int .i64 8, .int .i64 1, .int .i64 1, .int .i64 4, .int .i64 10, .int .i64 5, .int .i64 1, .int .i64 3, .int .i64 2, .pointer (some ⟨g238, 0, none⟩), .pointer (some ⟨g239, 0, none⟩), .int .i64 8, .int .i64 1] 172, var g239 [.int .i64 0, .int .i64 0, .int .i64 0] 311, row V270 51 7 ([[.int .i64 1, .int .i64 0, .int .i64 0, .int .i64 1, .int .i64 0, .int .i64 2, .int .i64 8]].map id)] (fun v L' => ∃ (V309 : Value) (g305 : Nat), v = .tuple #[] ∧ L' = [var g253 [.pointer (some ⟨g228, 0, none⟩), V309, Value.slice none 0 0] 261, var g228 [.pointer (some ⟨g235, 0, none⟩), .int .i64 2, .int .i64 4, .int .i64 1000, .int .u64 1, V230, .int .i64 0, .int .i64 1, .int .i64 1, .int .i64 10, .int .i64 1, .int .i64 64, .int .i64 20, .int .i64 1, .int .i64 4, .int .i64 10, .int .i64 5, .int .i64 1, .int .i64 3, .int .i64 2, V233, .int .i64 0, .int .i64 0, .int .i64 1, .int .i64 0, .pointer (some ⟨g240, 0, none⟩), .pointer (some ⟨g243, 0, none⟩), .pointer (some ⟨g246, 0, none⟩), .map (some b224), .pointer (some ⟨g225, 0, none⟩), .pointer (some ⟨g247, 0, none⟩)] 90, var g246 (.int .i64 1 :: .pointer (some ⟨g305, 0, none⟩) :: (rp 15 (Value.pointer none) [])) 210, var g243 [.pointer (some ⟨g244, 0, none⟩), .int .i64 1] 206, var g244 [.map (some b245), .int .i64 1, vcut V288 7 0 (0 : Int).toNat] 294, mi b245 (Value.int .i64) ([] : List (Int × Int)), mi b224 (id : Value → Value) [(1, (.agg #[.int .i64 1, .int .i64 2, .int .i64 (-1), .int .i64 50, .int .i64 9, .int .i64 0, .int .i64 1, .int .i64 1, Value.slice none 0 0] : Value))], var g235 [.pointer (some ⟨g236, 0, none⟩), .pointer (some ⟨g237, 0, none⟩), .int .i64 8, .int .i64 1, .int .i64 1, .int .i64 4, .int .i64 10, .int .i64 5, .int .i64 1, .int .i64 3, .int .i64 2, .pointer (some ⟨g238, 0, none⟩), .pointer (some ⟨g239, 0, none⟩), .int .i64 8, .int .i64 1] 172, var g239 [.int .i64 1, .int .i64 0, .int .i64 0] 311, row V309 51 7 ([[.int .i64 1, .int .i64 0, .int .i64 0, .int .i64 1, .int .i64 0, .int .i64 2, .int .i64 8], [.int .i64 3, .int .i64 0, .int .i64 0, .int .i64 1, .int .i64 0, .int .i64 0, .int .i64 50]].map id), var g305 [.int .i64 1, .int .i64 2, .int .i64 (-1), .int .i64 50, .int .i64 9, .int .i64 0, .int .i64 1] 66, row (vcut V288 7 0 (0 : Int).toNat) 66 7 (([] : List (List Value)).map id)]) := by
 refine Tri.en F86 rfl K86 rfl fun w0 => ?_
 refine J.co 5 rfl ?_
 refine O.q (Qt.lv 0 A29 rfl rfl rfl) rfl ?_
 refine O.oc 3 rfl ?_
 refine J.un ?_
 refine J.co 6 rfl ?_
 refine O.q (Qt.lv 1 A85 rfl rfl rfl) rfl ?_
 refine O.l (Lo.ca C183 (nb149 g246) [2] rfl rfl .nil) rfl ?_
 rintro _ _ ⟨_, ⟨rfl, rfl⟩, rfl⟩
 refine O.oo 10 rfl ?_
 refine O.q (Qt.lv 2 A84 rfl rfl rfl) rfl ?_
 refine O.l (Lo.ca C184 (nb156 g243 g244 b245 V288) [3, 4, 5, 6] rfl rfl .nil) rfl ?_
 rintro _ _ ⟨_, ⟨rfl, rfl⟩, rfl⟩
 refine O.oo 3 rfl ?_
 refine O.l (Lo.al Y66 rfl) rfl ?_
 rintro _ _ ⟨g304, rfl, rfl⟩
 refine O.l0 (Lo.st 0 Z66 rfl rfl rfl rfl rfl rfl rfl) ?_
 rintro _ _ rfl
 refine O.oc 11 rfl ?_
 refine J.drawTail 5 Tryz.mixed (by kernel_rfl) ?_
 refine S.r 3 rfl ?_
 refine S.q (Qt.lv 7 A85 rfl rfl rfl) rfl ?_
 refine S.q (Qt.lva 0 A66 Z66 rfl rfl rfl) rfl ?_
 refine S.endO ?_
 refine O.l (Lo.ca C185 (nb158 g246) [5] rfl rfl .nil) rfl ?_
 rintro _ _ ⟨_, ⟨g305, rfl, rfl⟩, rfl⟩
 refine O.oc 2 rfl ?_
 refine J.dm [(0, false), (1, false), (2, false), (3, false), (4, false), (5, false), (6, false), (7, true), (8, true)] [2, 8] Tryz.mixed (by kernel_rfl) rfl ?_
 refine Mx.r 3 rfl ?_
 refine Mx.q rfl (Qt.lv 1 A86 rfl rfl rfl) rfl ?_
 refine Mx.r 1 rfl ?_
 refine Mx.q rfl (Qt.lv 0 A3 rfl rfl rfl) rfl ?_
 refine Mx.q rfl (Qt.lva 0 A66 Z66 rfl rfl rfl) rfl ?_
 refine Mx.l rfl (Lo.ca C186 nb159 [] rfl rfl .nil) rfl ?_
 rintro _ _ ⟨_, ⟨rfl, rfl⟩, rfl⟩
 refine MxK.gp [2, 8] [0, 1] rfl rfl ?_
 refine Mx.l0 rfl (Lo.mapPut (u := (.agg #[.int .i64 1, .int .i64 2, .int .i64 (-1), .int .i64 50, .int .i64 9, .int .i64 0, .int .i64 1, .int .i64 1, Value.slice none 0 0] : Value)) 9 N86 N3 rfl rfl rfl rfl) ?_
 rintro _ _ rfl
 refine MxK.al [2, 8] rfl (by kernel_rfl) ?_
 refine Mx.nil ?_
 refine J.cc 1 rfl ?_
 refine J.drawTail 6 Tryz.mixed (by kernel_rfl) ?_
 refine S.r 3 rfl ?_
 refine S.q (Qt.lv 8 A3 rfl rfl rfl) rfl ?_
 refine S.r 1 rfl ?_
 refine S.q (Qt.lv 2 A3 rfl rfl rfl) rfl ?_
 refine S.endO ?_
 refine O.l (Lo.ca C187 nb163 [] rfl rfl .nil) rfl ?_
 rintro _ _ ⟨_, ⟨rfl, rfl⟩, rfl⟩
 refine O.oo 7 rfl ?_
 refine O.q (Qt.lv 8 A82 rfl rfl rfl) rfl ?_
 refine O.oo 1 rfl ?_
 refine O.l (Lo.ca C188 (nb168 g235 g236 g237 g238 g239) [10, 11] rfl rfl .nil) rfl ?_
 rintro _ _ ⟨_, ⟨rfl, rfl⟩, rfl⟩
 refine O.oo 4 rfl ?_
 refine O.q (Qt.lv 4 A3 rfl rfl rfl) rfl ?_
 refine O.oo 2 rfl ?_
 refine O.q (Qt.lv 4 A3 rfl rfl rfl) rfl ?_
 refine O.l (Lo.ca C80 (nb169 g253 g228 V270 g235 V230 V233 g240 g243 g246 b224 g225 g247) [9, 10, 12] rfl rfl .nil) rfl ?_
 rintro _ _ ⟨_, ⟨V309, rfl, rfl⟩, rfl⟩
 refine O.oc 2 rfl ?_
 refine J.again ?_
 refine J.co 6 rfl ?_
 refine O.q (Qt.lv 1 A85 rfl rfl rfl) rfl ?_
 refine O.l (Lo.ca C183 (nb173 g246 g305) [5, 6] rfl rfl .nil) rfl ?_
 rintro _ _ ⟨_, ⟨rfl, rfl⟩, rfl⟩
 refine O.oc 4 rfl ?_
 exact J.dn [] [2, 3, 0, 8, 9, 10, 12, 5, 6, 4, 1, 11] rfl trivial rfl ⟨V309, g305, rfl, rfl⟩

set_option maxRecDepth 100000 in
theorem nb175 (g253 : Nat) (g249 : Nat) (g250 : Nat) (g228 : Nat) (g235 : Nat) (V230 : Value) (V233 : Value) (g240 : Nat) (g243 : Nat) (g246 : Nat) (b224 : Nat) (g225 : Nat) (g247 : Nat) (g244 : Nat) (b245 : Nat) (V241 : Value) (b242 : Nat) (g236 : Nat) (g237 : Nat) (g238 : Nat) (g239 : Nat) : Tri Tryz.prog 77 #[.pointer (some ⟨g253, 0, none⟩), .pointer (some ⟨g249, 0, none⟩), .pointer (some ⟨g250, 0, none⟩)] [] [var g249 [.pointer (some ⟨g228, 0, none⟩)] 29, var g250 [.int .i64 1, .int .i64 (-1), .int .i64 0, .int .i64 2, .int .i64 50, .int .i64 9] 41, var g228 [.pointer (some ⟨g235, 0, none⟩), .int .i64 2, .int .i64 4, .int .i64 1000, .int .u64 1, V230, .int .i64 0, .int .i64 1, .int .i64 1, .int .i64 10, .int .i64 1, .int .i64 64, .int .i64 20, .int .i64 1, .int .i64 4, .int .i64 10, .int .i64 5, .int .i64 1, .int .i64 3, .int .i64 2, V233, .int .i64 0, .int .i64 0, .int .i64 0, .int .i64 0, .pointer (some ⟨g240, 0, none⟩), .pointer (some ⟨g243, 0, none⟩), .pointer (some ⟨g246, 0, none⟩), .map (some b224), .pointer (some ⟨g225, 0, none⟩), .pointer (some ⟨g247, 0, none⟩)] 90, row V230 56 14 ([[.int .i64 1, .int .i64 1, .int .i64 10, .int .i64 1, .int .i64 64, .int .i64 20, .int .i64 1, .int .i64 4, .int .i64 10, .int .i64 5, .int .i64 1, .int .i64 3, .int .i64 2, Value.slice none 0 0]].map id), mi b224 (id : Value → Value) ([] : List (Int × Value)), var g243 [.pointer (some ⟨g244, 0, none⟩), .int .i64 1] 206, var g244 [.map (some b245), .int .i64 1, Value.slice none 0 0] 294, mi b245 (Value.int .i64) ([] : List (Int × Int)), var g240 [V241, .int .i64 0, .int .i64 0, .map (some b242)] 180, mi b242 (Value.int .i64) ([] : List (Int × Int)), row V241 3 1 ([[.int .i64 0], [.int .i64 0], [.int .i64 0], [.int .i64 0], [.int .i64 0], [.int .i64 0], [.int .i64 0], [.int .i64 0], [.int .i64 0], [.int .i64 0], [.int .i64 0], [.int .i64 0], [.int .i64 0], [.int .i64 0], [.int .i64 0], [.int .i64 0], [.int .i64 0], [.int .i64 0], [.int .i64 0], [.int .i64 0], [.int .i64 0], [.int .i64 0], [.int .i64 0], [.int .i64 0], [.int .i64 0], [.int .i64 0], [.int .i64 0], [.int .i64 0], [.int .i64 0], [.int .i64 0], [.int .i64 0], [.int .i64 0], [.int .i64 0], [.int .i64 0], [.int .i64 0], [.int .i64 0], [.int .i64 0], [.int .i64 0], [.int .i64 0], [.int .i64 0], [.int .i64 0], [.int .i64 0], [.int .i64 0], [.int .i64 0], [.int .i64 0], [.int .i64 0], [.int .i64 0], [.int .i64 0], [.int .i64 0], [.int .i64 0], [.int .i64 0], [.int .i64 0], [.int .i64 0], [.int .i64 0], [.int .i64 0], [.int .i64 0], [.int .i64 0], [.int .i64 0], [.int .i64 0], [.int .i64 0], [.int .i64 0], [.int .i64 0], [.int .i64 0], [.int .i64 0]].map id), var g235 [.pointer (some ⟨g236, 0, none⟩), .pointer (some ⟨g237, 0, none⟩), .int .i64 8, .int .i64 1, .int .i64 1, .int .i64 4, .int .i64 10, .int .i64 5, .int .i64 1, .int .i64 3, .int .i64 2, .pointer (some ⟨g238, 0, none⟩), .pointer (some ⟨g239, 0, none⟩), .int .i64 8, .int .i64 1] 172, var g238 (.int .i64 8 :: (rp 128 (.int .i64 0) [])) 302, var g253 [.pointer (some ⟨g228, 0, none⟩), Value.slice none 0 0, Value.slice none 0 0] 261, var g246 (.int .i64 1 :: (rp 16 (Value.pointer none) [])) 210, var g239 [.int .i64 0, .int .i64 0, .int .i64 0] 311] (fun v L' => ∃ (V288 : Value) (V309 : Value) (g305 : Nat), v = .int .i64 0 ∧ L' = [var g249 [.pointer (some ⟨g228, 0, none⟩)] 29, var g250 [.int .i64 1, .int .i64 (-1), .int .i64 0, .int .i64 2, .int .i64 50, .int .i64 9] 41, var g228 [.pointer (some ⟨g235, 0, none⟩), .int .i64 2, .int .i64 4, .int .i64 1000, .int .u64 1, V230, .int .i64 0, .int .i64 1, .int .i64 1, .int .i64 10, .int .i64 1, .int .i64 64, .int .i64 20, .int .i64 1, .int .i64 4, .int .i64 10, .int .i64 5, .int .i64 1, .int .i64 3, .int .i64 2, V233, .int .i64 0, .int .i64 0, .int .i64 1, .int .i64 0, .pointer (some ⟨g240, 0, none⟩), .pointer (some ⟨g243, 0, none⟩), .pointer (some ⟨g246, 0, none⟩), .map (some b224), .pointer (some ⟨g225, 0, none⟩), .pointer (some ⟨g247, 0, none⟩)] 90, row V230 56 14 ([[.int .i64 1, .int .i64 1, .int .i64 10, .int .i64 1, .int .i64 64, .int .i64 20, .int .i64 1, .int .i64 4, .int .i64 10, .int .i64 5, .int .i64 1, .int .i64 3, .int .i64 2, Value.slice none 0 0]].map id), mi b224 (id : Value → Value) [(1, (.agg #[.int .i64 1, .int .i64 2, .int .i64 (-1), .int .i64 50, .int .i64 9, .int .i64 0, .int .i64 1, .int .i64 1, Value.slice none 0 0] : Value))], var g243 [.pointer (some ⟨g244, 0, none⟩), .int .i64 1] 206, var g244 [.map (some b245), .int .i64 1, vcut V288 7 0 (0 : Int).toNat] 294, mi b245 (Value.int .i64) ([] : List (Int × Int)), var g240 [V241, .int .i64 0, .int .i64 1, .map (some b242)] 180, mi b242 (Value.int .i64) [(1, 0)], row V241 3 1 ([[.int .i64 1], [.int .i64 0], [.int .i64 0], [.int .i64 0], [.int .i64 0], [.int .i64 0], [.int .i64 0], [.int .i64 0], [.int .i64 0], [.int .i64 0], [.int .i64 0], [.int .i64 0], [.int .i64 0], [.int .i64 0], [.int .i64 0], [.int .i64 0], [.int .i64 0], [.int .i64 0], [.int .i64 0], [.int .i64 0], [.int .i64 0], [.int .i64 0], [.int .i64 0], [.int .i64 0], [.int .i64 0], [.int .i64 0], [.int .i64 0], [.int .i64 0], [.int .i64 0], [.int .i64 0], [.int .i64 0], [.int .i64 0], [.int .i64 0], [.int .i64 0], [.int .i64 0], [.int .i64 0], [.int .i64 0], [.int .i64 0], [.int .i64 0], [.int .i64 0], [.int .i64 0], [.int .i64 0], [.int .i64 0], [.int .i64 0], [.int .i64 0], [.int .i64 0], [.int .i64 0], [.int .i64 0], [.int .i64 0], [.int .i64 0], [.int .i64 0], [.int .i64 0], [.int .i64 0], [.int .i64 0], [.int .i64 0], [.int .i64 0], [.int .i64 0], [.int .i64 0], [.int .i64 0], [.int .i64 0], [.int .i64 0], [.int .i64 0], [.int .i64 0], [.int .i64 0]].map id), var g235 [.pointer (some ⟨g236, 0, none⟩), .pointer (some ⟨g237, 0, none⟩), .int .i64 8, .int .i64 1, .int .i64 1, .int .i64 4, .int .i64 10, .int .i64 5, .int .i64 1, .int .i64 3, .int .i64 2, .pointer (some ⟨g238, 0, none⟩), .pointer (some ⟨g239, 0, none⟩), .int .i64 8, .int .i64 1] 172, var g238 (.int .i64 8 :: .int .i64 0 :: .int .i64 0 :: .int .i64 1 :: (rp 125 (.int .i64 0) [])) 302, var g253 [.pointer (some ⟨g228, 0, none⟩), V309, Value.slice none 0 0] 261, var g246 (.int .i64 1 :: .pointer (some ⟨g305, 0, none⟩) :: (rp 15 (Value.pointer none) [])) 210, var g239 [.int .i64 1, .int .i64 0, .int .i64 0] 311, row (vcut V288 7 0 (0 : Int).toNat) 66 7 (([] : List (List Value)).map id), row V309 51 7 ([[.int .i64 1, .int .i64 0, .int .i64 0, .int .i64 1, .int .i64 0, .int .i64 2, .int .i64 8], [.int .i64 3, .int .i64 0, .int .i64 0, .int .i64 1, .int .i64 0, .int .i64 0, .int .i64 50]].map id), var g305 [.int .i64 1, .int .i64 2, .int .i64 (-1), .int .i64 50, .int .i64 9, .int .i64 0, .int .i64 1] 66]) := by
 refine Tri.en F77 rfl K77 rfl fun w0 => ?_
 refine J.co 7 rfl ?_
 refine O.q (Qt.lv 0 A29 rfl rfl rfl) rfl ?_
 refine O.q (Qt.lva 1 A41 Z41 rfl rfl rfl) rfl ?_
 refine O.l (Lo.ca C78 (nb114 g228 g235 V230 V233 g240 g243 g246 b224 g225 g247) [2, 3] rfl rfl .nil) rfl ?_
 rintro _ _ ⟨_, ⟨rfl, rfl⟩, rfl⟩
 refine O.oo 7 rfl ?_
 refine O.q (Qt.lv 2 A29 rfl rfl rfl) rfl ?_
 refine O.oo 1 rfl ?_
 refine O.q (Qt.lv 3 A3 rfl rfl rfl) rfl ?_
 refine O.l (Lo.ca C79 (nb122 g228 g235 V230 V233 g240 g243 g246 b224 g225 g247 g244 b245 V241 b242) [0, 4, 5, 6, 7, 8, 9, 10] rfl rfl .nil) rfl ?_
 rintro _ _ ⟨_, ⟨rfl, rfl⟩, rfl⟩
 refine O.oc 4 rfl ?_
 refine J.drawTail 6 Tryz.mixed (by kernel_rfl) ?_
 refine S.q (Qt.lv 9 A29 rfl rfl rfl) rfl ?_
 refine S.r 2 rfl ?_
 refine S.q (Qt.lv 0 A82 rfl rfl rfl) rfl ?_
 refine S.r 1 rfl ?_
 refine S.q (Qt.lv 10 A3 rfl rfl rfl) rfl ?_
 refine S.endO ?_
 refine O.l (Lo.ca C81 (nb132 g235 g236 g237 g238 g239) [11, 12] rfl rfl .nil) rfl ?_
 rintro _ _ ⟨_, ⟨rfl, rfl⟩, rfl⟩
 refine O.oo 3 rfl ?_
 refine O.q (Qt.lv 11 A29 rfl rfl rfl) rfl ?_
 refine O.q (Qt.lva 12 A41 Z41 rfl rfl rfl) rfl ?_
 refine O.l (Lo.ca C82 (nb136 g228 g235 V230 V233 g240 g243 g246 b224 g225 g247 g236 g237 g238 g239) [2, 0] rfl rfl .nil) rfl ?_
 rintro _ _ ⟨_, ⟨rfl, rfl⟩, rfl⟩
 refine O.oc 3 rfl ?_
 refine J.dm [(0, false), (1, false), (2, false), (3, false), (4, false), (5, false), (6, false), (7, true), (8, true)] [11, 12] Tryz.mixed (by kernel_rfl) rfl ?_
 refine Mx.r 2 rfl ?_
 refine Mx.q rfl (Qt.lv 1 A3 rfl rfl rfl) rfl ?_
 refine Mx.r 2 rfl ?_
 refine Mx.q rfl (Qt.lv 1 A3 rfl rfl rfl) rfl ?_
 refine Mx.q rfl (Qt.lv 0 A29 rfl rfl rfl) rfl ?_
 refine Mx.l rfl (Lo.ca C18 (nb138 g228 g235 V230 V233 g240 g243 g246 b224 g225 g247 g236 g237 g238 g239) [0, 1] rfl rfl .nil) rfl ?_
 rintro _ _ ⟨_, ⟨rfl, rfl⟩, rfl⟩
 refine MxK.gp [11, 12] [0, 1] rfl rfl ?_
 refine Mx.l rfl (Lo.ca C80 (nb139 g253 g228 g235 V230 V233 g240 g243 g246 b224 g225 g247) [13, 0] rfl rfl .nil) rfl ?_
 rintro _ _ ⟨_, ⟨V270, rfl, rfl⟩, rfl⟩
 refine MxK.al [13, 14] rfl (by kernel_rfl) ?_
 refine Mx.nil ?_
 refine J.co 9 rfl ?_
 refine O.q (Qt.lva 14 A41 Z41 rfl rfl rfl) rfl ?_
 refine O.l (Lo.ca C85 (nb145 g253 g228 V270 g235 V230 V233 g240 g243 g246 b224 g225 g247 g244 b245) [0, 1, 6, 7, 8] rfl rfl .nil) rfl ?_
 rintro _ _ ⟨_, ⟨V288, rfl, rfl⟩, rfl⟩
 refine O.oo 4 rfl ?_
 refine O.l (Lo.ca C86 (nb174 g253 g228 V270 g235 V230 V233 g240 g243 g246 b224 g225 g247 g244 b245 V288 g236 g237 g238 g239) [0, 1, 16, 2, 3, 5, 4, 9, 7, 17, 6] rfl rfl .nil) rfl ?_
 rintro _ _ ⟨_, ⟨V309, g305, rfl, rfl⟩, rfl⟩
 refine O.oc 5 rfl ?_
 exact J.r1 [17, 18, 1, 16, 6, 3, 4, 5, 13, 14, 15, 7, 12, 0, 2, 8, 11, 9, 10] rfl rfl rfl ⟨V288, V309, g305, rfl, rfl⟩

set_option maxRecDepth 100000 in
theorem nb176 (g228 : Nat) (g249 : Nat) (g250 : Nat) (g235 : Nat) (V230 : Value) (V233 : Value) (g240 : Nat) (g243 : Nat) (g246 : Nat) (b224 : Nat) (g225 : Nat) (g247 : Nat) (g244 : Nat) (b245 : Nat) (V241 : Value) (b242 : Nat) (g236 : Nat) (g237 : Nat) (g238 : Nat) (g239 : Nat) : Tri Tryz.prog 76 #[.pointer (some ⟨g228, 0, none⟩), .func (.func 77) #[] #[.pointer (some ⟨g249, 0, none⟩), .pointer (some ⟨g250, 0, none⟩)]] [] [var g228 [.pointer (some ⟨g235, 0, none⟩), .int .i64 2, .int .i64 4, .int .i64 1000, .int .u64 1, V230, .int .i64 0, .int .i64 1, .int .i64 1, .int .i64 10, .int .i64 1, .int .i64 64, .int .i64 20, .int .i64 1, .int .i64 4, .int .i64 10, .int .i64 5, .int .i64 1, .int .i64 3, .int .i64 2, V233, .int .i64 0, .int .i64 0, .int .i64 0, .int .i64 0, .pointer (some ⟨g240, 0, none⟩), .pointer (some ⟨g243, 0, none⟩), .pointer (some ⟨g246, 0, none⟩), .map (some b224), .pointer (some ⟨g225, 0, none⟩), .pointer (some ⟨g247, 0, none⟩)] 90, var g249 [.pointer (some ⟨g228, 0, none⟩)] 29, var g250 [.int .i64 1, .int .i64 (-1), .int .i64 0, .int .i64 2, .int .i64 50, .int .i64 9] 41, row V230 56 14 ([[.int .i64 1, .int .i64 1, .int .i64 10, .int .i64 1, .int .i64 64, .int .i64 20, .int .i64 1, .int .i64 4, .int .i64 10, .int .i64 5, .int .i64 1, .int .i64 3, .int .i64 2, Value.slice none 0 0]].map id), mi b224 (id : Value → Value) ([] : List (Int × Value)), var g243 [.pointer (some ⟨g244, 0, none⟩), .int .i64 1] 206, var g244 [.map (some b245), .int .i64 1, Value.slice none 0 0] 294, mi b245 (Value.int .i64) ([] : List (Int × Int)), var g240 [V241, .int .i64 0, .int .i64 0, .map (some b242)] 180, mi b242 (Value.int .i64) ([] : List (Int × Int)), row V241 3 1 ([[.int .i64 0], [.int .i64 0], [.int .i64 0], [.int .i64 0], [.int .i64 0], [.int .i64 0], [.int .i64 0], [.int .i64 0], [.int .i64 0], [.int .i64 0], [.int .i64 0], [.int .i64 0], [.int .i64 0], [.int .i64 0], [.int .i64 0], [.int .i64 0], [.int .i64 0], [.int .i64 0], [.int .i64 0], [.int .i64 0], [.int .i64 0], [.int .i64 0], [.int .i64 0], [.int .i64 0], [.int .i64 0], [.int .i64 0], [.int .i64 0], [.int .i64 0], [.int .i64 0], [.int .i64 0], [.int .i64 0], [.int .i64 0], [.int .i64 0], [.int .i64 0], [.int .i64 0], [.int .i64 0], [.int .i64 0], [.int .i64 0], [.int .i64 0], [.int .i64 0], [.int .i64 0], [.int .i64 0], [.int .i64 0], [.int .i64 0], [.int .i64 0], [.int .i64 0], [.int .i64 0], [.int .i64 0], [.int .i64 0], [.int .i64 0], [.int .i64 0], [.int .i64 0], [.int .i64 0], [.int .i64 0], [.int .i64 0], [.int .i64 0], [.int .i64 0], [.int .i64 0], [.int .i64 0], [.int .i64 0], [.int .i64 0], [.int .i64 0], [.int .i64 0], [.int .i64 0]].map id), var g235 [.pointer (some ⟨g236, 0, none⟩), .pointer (some ⟨g237, 0, none⟩), .int .i64 8, .int .i64 1, .int .i64 1, .int .i64 4, .int .i64 10, .int .i64 5, .int .i64 1, .int .i64 3, .int .i64 2, .pointer (some ⟨g238, 0, none⟩), .pointer (some ⟨g239, 0, none⟩), .int .i64 8, .int .i64 1] 172, var g238 (.int .i64 8 :: (rp 128 (.int .i64 0) [])) 302, var g246 (.int .i64 1 :: (rp 16 (Value.pointer none) [])) 210, var g239 [.int .i64 0, .int .i64 0, .int .i64 0] 311] (fun v L' => ∃ (V309 : Value) (V288 : Value) (g305 : Nat), v = .tuple #[.agg #[V309, Value.slice none 0 0], .int .i64 0] ∧ L' = [var g228 [.pointer (some ⟨g235, 0, none⟩), .int .i64 2, .int .i64 4, .int .i64 1000, .int .u64 1, V230, .int .i64 0, .int .i64 1, .int .i64 1, .int .i64 10, .int .i64 1, .int .i64 64, .int .i64 20, .int .i64 1, .int .i64 4, .int .i64 10, .int .i64 5, .int .i64 1, .int .i64 3, .int .i64 2, V233, .int .i64 0, .int .i64 0, .int .i64 1, .int .i64 0, .pointer (some ⟨g240, 0, none⟩), .pointer (some ⟨g243, 0, none⟩), .pointer (some ⟨g246, 0, none⟩), .map (some b224), .pointer (some ⟨g225, 0, none⟩), .pointer (some ⟨g247, 0, none⟩)] 90, var g249 [.pointer (some ⟨g228, 0, none⟩)] 29, var g250 [.int .i64 1, .int .i64 (-1), .int .i64 0, .int .i64 2, .int .i64 50, .int .i64 9] 41, row V230 56 14 ([[.int .i64 1, .int .i64 1, .int .i64 10, .int .i64 1, .int .i64 64, .int .i64 20, .int .i64 1, .int .i64 4, .int .i64 10, .int .i64 5, .int .i64 1, .int .i64 3, .int .i64 2, Value.slice none 0 0]].map id), mi b224 (id : Value → Value) [(1, (.agg #[.int .i64 1, .int .i64 2, .int .i64 (-1), .int .i64 50, .int .i64 9, .int .i64 0, .int .i64 1, .int .i64 1, Value.slice none 0 0] : Value))], var g243 [.pointer (some ⟨g244, 0, none⟩), .int .i64 1] 206, var g244 [.map (some b245), .int .i64 1, vcut V288 7 0 (0 : Int).toNat] 294, mi b245 (Value.int .i64) ([] : List (Int × Int)), var g240 [V241, .int .i64 0, .int .i64 1, .map (some b242)] 180, mi b242 (Value.int .i64) [(1, 0)], row V241 3 1 ([[.int .i64 1], [.int .i64 0], [.int .i64 0], [.int .i64 0], [.int .i64 0], [.int .i64 0], [.int .i64 0], [.int .i64 0], [.int .i64 0], [.int .i64 0], [.int .i64 0], [.int .i64 0], [.int .i64 0], [.int .i64 0], [.int .i64 0], [.int .i64 0], [.int .i64 0], [.int .i64 0], [.int .i64 0], [.int .i64 0], [.int .i64 0], [.int .i64 0], [.int .i64 0], [.int .i64 0], [.int .i64 0], [.int .i64 0], [.int .i64 0], [.int .i64 0], [.int .i64 0], [.int .i64 0], [.int .i64 0], [.int .i64 0], [.int .i64 0], [.int .i64 0], [.int .i64 0], [.int .i64 0], [.int .i64 0], [.int .i64 0], [.int .i64 0], [.int .i64 0], [.int .i64 0], [.int .i64 0], [.int .i64 0], [.int .i64 0], [.int .i64 0], [.int .i64 0], [.int .i64 0], [.int .i64 0], [.int .i64 0], [.int .i64 0], [.int .i64 0], [.int .i64 0], [.int .i64 0], [.int .i64 0], [.int .i64 0], [.int .i64 0], [.int .i64 0], [.int .i64 0], [.int .i64 0], [.int .i64 0], [.int .i64 0], [.int .i64 0], [.int .i64 0], [.int .i64 0]].map id), var g235 [.pointer (some ⟨g236, 0, none⟩), .pointer (some ⟨g237, 0, none⟩), .int .i64 8, .int .i64 1, .int .i64 1, .int .i64 4, .int .i64 10, .int .i64 5, .int .i64 1, .int .i64 3, .int .i64 2, .pointer (some ⟨g238, 0, none⟩), .pointer (some ⟨g239, 0, none⟩), .int .i64 8, .int .i64 1] 172, var g238 (.int .i64 8 :: .int .i64 0 :: .int .i64 0 :: .int .i64 1 :: (rp 125 (.int .i64 0) [])) 302, var g246 (.int .i64 1 :: .pointer (some ⟨g305, 0, none⟩) :: (rp 15 (Value.pointer none) [])) 210, var g239 [.int .i64 1, .int .i64 0, .int .i64 0] 311, row V309 51 7 ([[.int .i64 1, .int .i64 0, .int .i64 0, .int .i64 1, .int .i64 0, .int .i64 2, .int .i64 8], [.int .i64 3, .int .i64 0, .int .i64 0, .int .i64 1, .int .i64 0, .int .i64 0, .int .i64 50]].map id), row (vcut V288 7 0 (0 : Int).toNat) 66 7 (([] : List (List Value)).map id), var g305 [.int .i64 1, .int .i64 2, .int .i64 (-1), .int .i64 50, .int .i64 9, .int .i64 0, .int .i64 1] 66]) := by
 refine Tri.en F76 rfl K76 rfl fun w0 => ?_
 refine J.co 2 rfl ?_
 refine O.l (Lo.al Y36 rfl) rfl ?_
 rintro _ _ ⟨g252, rfl, rfl⟩
 refine O.oo 6 rfl ?_
 refine O.l (Lo.ca C39 (nb111 g228 g235 V230 V233 g240 g243 g246 b224 g225 g247) [1] rfl rfl .nil) rfl ?_
 rintro _ _ ⟨_, ⟨rfl, rfl⟩, rfl⟩
 refine O.oo 7 rfl ?_
 refine O.p (Pu.build [(0, .pointer (some ⟨g228, 0, none⟩))] [.pointer (some ⟨g228, 0, none⟩), Value.slice none 0 0, Value.slice none 0 0] #[(0, 1), (1, 2)] U261 Y261 (places261 N261) rfl (by kernel_rfl)) rfl ?_
 refine O.l (Lo.bx rfl rfl) rfl ?_
 rintro _ _ ⟨g253, rfl, rfl⟩
 refine O.oo 7 rfl ?_
 refine O.l (Lo.cv C77 rfl rfl (nb175 g253 g249 g250 g228 g235 V230 V233 g240 g243 g246 b224 g225 g247 g244 b245 V241 b242 g236 g237 g238 g239) [3, 4, 1, 5, 6, 7, 8, 9, 10, 11, 12, 13, 14, 0, 15, 16] rfl .nil) rfl ?_
 rintro _ _ ⟨_, ⟨V288, V309, g305, rfl, rfl⟩, rfl⟩
 refine O.oo 14 rfl ?_
 refine O.q (Qt.lva 13 A36 Z36 rfl rfl rfl) rfl ?_
 refine O.one (Src.row 17 rfl) (fun hV315 => ?_)
 refine O.l0 (Lo.st 19 Z36 rfl rfl rfl rfl rfl (by simp only [List.all_cons, List.all_nil, Bool.and_true, hV315] <;> rfl) rfl) ?_
 rintro _ _ rfl
 refine O.oc 2 rfl ?_
 exact J.rn [_, _] [2, 0, 1, 3, 4, 5, 6, 7, 8, 9, 10, 11, 12, 14, 15, 17, 16, 18] rfl ⟨⟨_, _, 0, 0, _, rfl, Cel.var 19 rfl, rfl, Cut.agg _ A36 Z36 rfl rfl⟩, rfl, trivial⟩ rfl ⟨V309, V288, g305, rfl, rfl⟩

set_option maxRecDepth 100000 in
theorem nb177 (g228 : Nat) (g235 : Nat) (V230 : Value) (V233 : Value) (g240 : Nat) (g243 : Nat) (g246 : Nat) (b224 : Nat) (g225 : Nat) (g247 : Nat) (g244 : Nat) (b245 : Nat) (V241 : Value) (b242 : Nat) (g236 : Nat) (g237 : Nat) (g238 : Nat) (g239 : Nat) : Tri Tryz.prog 32 #[.pointer (some ⟨g228, 0, none⟩), .agg #[.int .i64 1, .int .i64 (-1), .int .i64 0, .int .i64 2, .int .i64 50, .int .i64 9]] [] [var g228 [.pointer (some ⟨g235, 0, none⟩), .int .i64 2, .int .i64 4, .int .i64 1000, .int .u64 1, V230, .int .i64 0, .int .i64 1, .int .i64 1, .int .i64 10, .int .i64 1, .int .i64 64, .int .i64 20, .int .i64 1, .int .i64 4, .int .i64 10, .int .i64 5, .int .i64 1, .int .i64 3, .int .i64 2, V233, .int .i64 0, .int .i64 0, .int .i64 0, .int .i64 0, .pointer (some ⟨g240, 0, none⟩), .pointer (some ⟨g243, 0, none⟩), .pointer (some ⟨g246, 0, none⟩), .map (some b224), .pointer (some ⟨g225, 0, none⟩), .pointer (some ⟨g247, 0, none⟩)] 90, row V230 56 14 ([[.int .i64 1, .int .i64 1, .int .i64 10, .int .i64 1, .int .i64 64, .int .i64 20, .int .i64 1, .int .i64 4, .int .i64 10, .int .i64 5, .int .i64 1, .int .i64 3, .int .i64 2, Value.slice none 0 0]].map id), mi b224 (id : Value → Value) ([] : List (Int × Value)), var g243 [.pointer (some ⟨g244, 0, none⟩), .int .i64 1] 206, var g244 [.map (some b245), .int .i64 1, Value.slice none 0 0] 294, mi b245 (Value.int .i64) ([] : List (Int × Int)), var g240 [V241, .int .i64 0, .int .i64 0, .map (some b242)] 180, mi b242 (Value.int .i64) ([] : List (Int × Int)), row V241 3 1 ([[.int .i64 0], [.int .i64 0], [.int .i64 0], [.int .i64 0], [.int .i64 0], [.int .i64 0], [.int .i64 0], [.int .i64 0], [.int .i64 0], [.int .i64 0], [.int .i64 0], [.int .i64 0], [.int .i64 0], [.int .i64 0], [.int .i64 0], [.int .i64 0], [.int .i64 0], [.int .i64 0], [.int .i64 0], [.int .i64 0], [.int .i64 0], [.int .i64 0], [.int .i64 0], [.int .i64 0], [.int .i64 0], [.int .i64 0], [.int .i64 0], [.int .i64 0], [.int .i64 0], [.int .i64 0], [.int .i64 0], [.int .i64 0], [.int .i64 0], [.int .i64 0], [.int .i64 0], [.int .i64 0], [.int .i64 0], [.int .i64 0], [.int .i64 0], [.int .i64 0], [.int .i64 0], [.int .i64 0], [.int .i64 0], [.int .i64 0], [.int .i64 0], [.int .i64 0], [.int .i64 0], [.int .i64 0], [.int .i64 0], [.int .i64 0], [.int .i64 0], [.int .i64 0], [.int .i64 0], [.int .i64 0], [.int .i64 0], [.int .i64 0], [.int .i64 0], [.int .i64 0], [.int .i64 0], [.int .i64 0], [.int .i64 0], [.int .i64 0], [.int .i64 0], [.int .i64 0]].map id), var g235 [.pointer (some ⟨g236, 0, none⟩), .pointer (some ⟨g237, 0, none⟩), .int .i64 8, .int .i64 1, .int .i64 1, .int .i64 4, .int .i64 10, .int .i64 5, .int .i64 1, .int .i64 3, .int .i64 2, .pointer (some ⟨g238, 0, none⟩), .pointer (some ⟨g239, 0, none⟩), .int .i64 8, .int .i64 1] 172, var g238 (.int .i64 8 :: (rp 128 (.int .i64 0) [])) 302, var g246 (.int .i64 1 :: (rp 16 (Value.pointer none) [])) 210, var g239 [.int .i64 0, .int .i64 0, .int .i64 0] 311] (fun v L' => ∃ (V309 : Value) (V288 : Value) (g305 : Nat), v = .tuple #[.agg #[V309, Value.slice none 0 0], .int .i64 0] ∧ L' = [var g228 [.pointer (some ⟨g235, 0, none⟩), .int .i64 2, .int .i64 4, .int .i64 1000, .int .u64 1, V230, .int .i64 0, .int .i64 1, .int .i64 1, .int .i64 10, .int .i64 1, .int .i64 64, .int .i64 20, .int .i64 1, .int .i64 4, .int .i64 10, .int .i64 5, .int .i64 1, .int .i64 3, .int .i64 2, V233, .int .i64 0, .int .i64 0, .int .i64 1, .int .i64 0, .pointer (some ⟨g240, 0, none⟩), .pointer (some ⟨g243, 0, none⟩), .pointer (some ⟨g246, 0, none⟩), .map (some b224), .pointer (some ⟨g225, 0, none⟩), .pointer (some ⟨g247, 0, none⟩)] 90, row V230 56 14 ([[.int .i64 1, .int .i64 1, .int .i64 10, .int .i64 1, .int .i64 64, .int .i64 20, .int .i64 1, .int .i64 4, .int .i64 10, .int .i64 5, .int .i64 1, .int .i64 3, .int .i64 2, Value.slice none 0 0]].map id), mi b224 (id : Value → Value) [(1, (.agg #[.int .i64 1, .int .i64 2, .int .i64 (-1), .int .i64 50, .int .i64 9, .int .i64 0, .int .i64 1, .int .i64 1, Value.slice none 0 0] : Value))], var g243 [.pointer (some ⟨g244, 0, none⟩), .int .i64 1] 206, var g244 [.map (some b245), .int .i64 1, vcut V288 7 0 (0 : Int).toNat] 294, mi b245 (Value.int .i64) ([] : List (Int × Int)), var g240 [V241, .int .i64 0, .int .i64 1, .map (some b242)] 180, mi b242 (Value.int .i64) [(1, 0)], row V241 3 1 ([[.int .i64 1], [.int .i64 0], [.int .i64 0], [.int .i64 0], [.int .i64 0], [.int .i64 0], [.int .i64 0], [.int .i64 0], [.int .i64 0], [.int .i64 0], [.int .i64 0], [.int .i64 0], [.int .i64 0], [.int .i64 0], [.int .i64 0], [.int .i64 0], [.int .i64 0], [.int .i64 0], [.int .i64 0], [.int .i64 0], [.int .i64 0], [.int .i64 0], [.int .i64 0], [.int .i64 0], [.int .i64 0], [.int .i64 0], [.int .i64 0], [.int .i64 0], [.int .i64 0], [.int .i64 0], [.int .i64 0], [.int .i64 0], [.int .i64 0], [.int .i64 0], [.int .i64 0], [.int .i64 0], [.int .i64 0], [.int .i64 0], [.int .i64 0], [.int .i64 0], [.int .i64 0], [.int .i64 0], [.int .i64 0], [.int .i64 0], [.int .i64 0], [.int .i64 0], [.int .i64 0], [.int .i64 0], [.int .i64 0], [.int .i64 0], [.int .i64 0], [.int .i64 0], [.int .i64 0], [.int .i64 0], [.int .i64 0], [.int .i64 0], [.int .i64 0], [.int .i64 0], [.int .i64 0], [.int .i64 0], [.int .i64 0], [.int .i64 0], [.int .i64 0], [.int .i64 0]].map id), var g235 [.pointer (some ⟨g236, 0, none⟩), .pointer (some ⟨g237, 0, none⟩), .int .i64 8, .int .i64 1, .int .i64 1, .int .i64 4, .int .i64 10, .int .i64 5, .int .i64 1, .int .i64 3, .int .i64 2, .pointer (some ⟨g238, 0, none⟩), .pointer (some ⟨g239, 0, none⟩), .int .i64 8, .int .i64 1] 172, var g238 (.int .i64 8 :: .int .i64 0 :: .int .i64 0 :: .int .i64 1 :: (rp 125 (.int .i64 0) [])) 302, var g246 (.int .i64 1 :: .pointer (some ⟨g305, 0, none⟩) :: (rp 15 (Value.pointer none) [])) 210, var g239 [.int .i64 1, .int .i64 0, .int .i64 0] 311, row V309 51 7 ([[.int .i64 1, .int .i64 0, .int .i64 0, .int .i64 1, .int .i64 0, .int .i64 2, .int .i64 8], [.int .i64 3, .int .i64 0, .int .i64 0, .int .i64 1, .int .i64 0, .int .i64 0, .int .i64 50]].map id), row (vcut V288 7 0 (0 : Int).toNat) 66 7 (([] : List (List Value)).map id), var g305 [.int .i64 1, .int .i64 2, .int .i64 (-1), .int .i64 50, .int .i64 9, .int .i64 0, .int .i64 1] 66]) := by
 refine Tri.en F32 rfl K32 rfl fun w0 => ?_
 refine J.co 2 rfl ?_
 refine O.l (Lo.bx rfl rfl) rfl ?_
 rintro _ _ ⟨g249, rfl, rfl⟩
 refine O.l (Lo.bx rfl rfl) rfl ?_
 rintro _ _ ⟨g250, rfl, rfl⟩
 refine O.l (Lo.al Y36 rfl) rfl ?_
 rintro _ _ ⟨g251, rfl, rfl⟩
 refine O.oo 4 rfl ?_
 refine O.q (Qt.lv 2 A29 rfl rfl rfl) rfl ?_
 refine O.p (Pu.makeFunc [.pointer (some ⟨g249, 0, none⟩), .pointer (some ⟨g250, 0, none⟩)] rfl) rfl ?_
 refine O.l (Lo.ca C76 (nb176 g228 g249 g250 g235 V230 V233 g240 g243 g246 b224 g225 g247 g244 b245 V241 b242 g236 g237 g238 g239) [3, 2, 1, 4, 5, 6, 7, 8, 9, 10, 11, 12, 13, 14, 15] rfl rfl .nil) rfl ?_
 rintro _ _ ⟨_, ⟨V309, V288, g305, rfl, rfl⟩, rfl⟩
 refine O.oo 2 rfl ?_
 refine O.one (Src.row 15 rfl) (fun hV316 => ?_)
 refine O.l0 (Lo.st 18 Z36 rfl rfl rfl rfl rfl (by simp only [List.all_cons, List.all_nil, Bool.and_true, hV316] <;> rfl) rfl) ?_
 rintro _ _ rfl
 refine O.oc 2 rfl ?_
 exact J.rn [_, _] [0, 3, 4, 5, 6, 7, 8, 9, 10, 11, 12, 13, 14, 15, 16, 17] rfl ⟨⟨_, _, 0, 0, _, rfl, Cel.var 18 rfl, rfl, Cut.agg _ A36 Z36 rfl rfl⟩, rfl, trivial⟩ rfl ⟨V309, V288, g305, rfl, rfl⟩

set_option maxRecDepth 100000 in
theorem nb178 (g228 : Nat) (g235 : Nat) (V230 : Value) (V233 : Value) (g240 : Nat) (g243 : Nat) (g246 : Nat) (b224 : Nat) (g225 : Nat) (g247 : Nat) : Tri Tryz.prog 39 #[.pointer (some ⟨g228, 0, none⟩)] [] [var g228 [.pointer (some ⟨g235, 0, none⟩), .int .i64 2, .int .i64 4, .int .i64 1000, .int .u64 1, V230, .int .i64 0, .int .i64 1, .int .i64 1, .int .i64 10, .int .i64 1, .int .i64 64, .int .i64 20, .int .i64 1, .int .i64 4, .int .i64 10, .int .i64 5, .int .i64 1, .int .i64 3, .int .i64 2, V233, .int .i64 0, .int .i64 0, .int .i64 1, .int .i64 0, .pointer (some ⟨g240, 0, none⟩), .pointer (some ⟨g243, 0, none⟩), .pointer (some ⟨g246, 0, none⟩), .map (some b224), .pointer (some ⟨g225, 0, none⟩), .pointer (some ⟨g247, 0, none⟩)] 90] (fun v L' => v = .bool true ∧ L' = [var g228 [.pointer (some ⟨g235, 0, none⟩), .int .i64 2, .int .i64 4, .int .i64 1000, .int .u64 1, V230, .int .i64 0, .int .i64 1, .int .i64 1, .int .i64 10, .int .i64 1, .int .i64 64, .int .i64 20, .int .i64 1, .int .i64 4, .int .i64 10, .int .i64 5, .int .i64 1, .int .i64 3, .int .i64 2, V233, .int .i64 0, .int .i64 0, .int .i64 1, .int .i64 0, .pointer (some ⟨g240, 0, none⟩), .pointer (some ⟨g243, 0, none⟩), .pointer (some ⟨g246, 0, none⟩), .map (some b224), .pointer (some ⟨g225, 0, none⟩), .pointer (some ⟨g247, 0, none⟩)] 90]) := by
 refine Tri.en F39 rfl K39 rfl fun w0 => ?_
 refine J.co 7 rfl ?_
 refine O.p (Pu.ptrNe N29 rfl) rfl ?_
 refine O.oo 4 rfl ?_
 refine O.gz (Qt.lv 0 A82 rfl rfl rfl) rfl rfl ?_
 refine O.gz (Pu.qt (Pu.ptrNe N82 rfl)) rfl rfl ?_
 refine O.oc 3 rfl ?_
 exact J.r1 [0] rfl rfl rfl ⟨rfl, rfl⟩

set_option maxRecDepth 100000 in
theorem nb179 : Tri Tryz.prog 175 #[.agg #[.int .i64 2, .int .i64 (-1), .int .i64 0, .int .i64 3, .int .i64 50, .int .i64 9]] [] [] (fun v L' => v = .int .i64 0 ∧ L' = []) := by
 refine Tri.en F175 rfl K175 rfl fun w0 => ?_
 refine J.co 2 rfl ?_
 refine O.l (Lo.bx rfl rfl) rfl ?_
 rintro _ _ ⟨g325, rfl, rfl⟩
 refine O.oo 5 rfl ?_
 refine O.l (Lo.ca C258 (nb112 g325) [] rfl rfl .nil) rfl ?_
 rintro V326 _ ⟨_, ⟨_, rfl, rfl⟩, rfl⟩
 refine O.q (Qt.lenM U332 rfl (Src.row 0 rfl)) rfl ?_
 refine O.oc 3 rfl ?_
 refine J.un ?_
 refine J.co 11 rfl ?_
 refine O.q (Qt.ix U332 Z336 rfl (Src.row 0 rfl) (j := 0) (a := [.pointer (some ⟨g325, 0, none⟩), .int .i64 6, .int .i64 0, .int .i64 0, .int .i64 281474976710655]) rfl rfl rfl) rfl ?_
 refine O.q (Qt.lea A336 Z336 (Src.row 0 rfl) (j := 0) (a := [.pointer (some ⟨g325, 0, none⟩), .int .i64 6, .int .i64 0, .int .i64 0, .int .i64 281474976710655]) rfl 0 rfl (by omega) rfl) rfl ?_
 refine O.l (Lo.al Y336 rfl) rfl ?_
 rintro _ _ ⟨g327, rfl, rfl⟩
 refine O.l0 (Lo.st 0 Z336 rfl rfl rfl rfl rfl rfl rfl) ?_
 rintro _ _ rfl
 refine O.oc 2 rfl ?_
 refine J.drawStill Tryz.mixed (by kernel_rfl) ?_
 refine S.r 1 rfl ?_
 refine S.q (Qt.lv 0 A305 rfl rfl rfl) rfl ?_
 refine S.r 1 rfl ?_
 refine S.q (Qt.lv 2 A3 rfl rfl rfl) rfl ?_
 refine S.r 1 rfl ?_
 refine S.q (Qt.lv 0 A3 rfl rfl rfl) rfl ?_
 refine S.r 3 rfl ?_
 refine S.gz (Qt.lv 0 A305 rfl rfl rfl) rfl rfl ?_
 refine S.r 1 rfl ?_
 refine S.gz (Qt.lv 2 A3 rfl rfl rfl) rfl rfl ?_
 refine S.r 1 rfl ?_
 refine S.gz (Qt.lv 0 A3 rfl rfl rfl) rfl rfl ?_
 refine S.r 2 rfl ?_
 refine S.endJ ?_
 refine J.co 4 rfl ?_
 refine O.p (Pu.add' rfl rfl (by decide)) rfl ?_
 refine O.oc 2 rfl ?_
 refine J.again ?_
 refine J.co 11 rfl ?_
 refine O.q (Qt.ix U332 Z336 rfl (Src.row 1 rfl) (j := 1) (a := [.pointer (some ⟨g325, 1, none⟩), .int .i64 1, .int .i64 1, .int .i64 (-1), .int .i64 7]) rfl rfl rfl) rfl ?_
 refine O.q (Qt.lea A336 Z336 (Src.row 1 rfl) (j := 1) (a := [.pointer (some ⟨g325, 1, none⟩), .int .i64 1, .int .i64 1, .int .i64 (-1), .int .i64 7]) rfl 0 rfl (by omega) rfl) rfl ?_
 refine O.l (Lo.al Y336 rfl) rfl ?_
 rintro _ _ ⟨g328, rfl, rfl⟩
 refine O.l0 (Lo.st 0 Z336 rfl rfl rfl rfl rfl rfl rfl) ?_
 rintro _ _ rfl
 refine O.oc 2 rfl ?_
 refine J.drawStill Tryz.mixed (by kernel_rfl) ?_
 refine S.r 1 rfl ?_
 refine S.q (Qt.lv 0 A305 rfl rfl rfl) rfl ?_
 refine S.r 1 rfl ?_
 refine S.q (Qt.lv 3 A3 rfl rfl rfl) rfl ?_
 refine S.r 1 rfl ?_
 refine S.q (Qt.lv 0 A3 rfl rfl rfl) rfl ?_
 refine S.r 3 rfl ?_
 refine S.gz (Qt.lv 0 A305 rfl rfl rfl) rfl rfl ?_
 refine S.r 1 rfl ?_
 refine S.gz (Qt.lv 3 A3 rfl rfl rfl) rfl rfl ?_
 refine S.r 1 rfl ?_
 refine S.gz (Qt.lv 0 A3 rfl rfl rfl) rfl rfl ?_
 refine S.r 2 rfl ?_
 refine S.endJ ?_
 refine J.co 4 rfl ?_
 refine O.p (Pu.add' rfl rfl (by decide)) rfl ?_
 refine O.oc 2 rfl ?_
 refine J.again ?_
 refine J.co 11 rfl ?_
 refine O.q (Qt.ix U332 Z336 rfl (Src.row 2 rfl) (j := 2) (a := [.pointer (some ⟨g325, 2, none⟩), .int .i64 1, .int .i64 0, .int .i64 0, .int .i64 7]) rfl rfl rfl) rfl ?_
 refine O.q (Qt.lea A336 Z336 (Src.row 2 rfl) (j := 2) (a := [.pointer (some ⟨g325, 2, none⟩), .int .i64 1, .int .i64 0, .int .i64 0, .int .i64 7]) rfl 0 rfl (by omega) rfl) rfl ?_
 refine O.l (Lo.al Y336 rfl) rfl ?_
 rintro _ _ ⟨g329, rfl, rfl⟩
 refine O.l0 (Lo.st 0 Z336 rfl rfl rfl rfl rfl rfl rfl) ?_
 rintro _ _ rfl
 refine O.oc 2 rfl ?_
 refine J.drawStill Tryz.mixed (by kernel_rfl) ?_
 refine S.r 1 rfl ?_
 refine S.q (Qt.lv 0 A305 rfl rfl rfl) rfl ?_
 refine S.r 1 rfl ?_
 refine S.q (Qt.lv 4 A3 rfl rfl rfl) rfl ?_
 refine S.r 1 rfl ?_
 refine S.q (Qt.lv 0 A3 rfl rfl rfl) rfl ?_
 refine S.r 3 rfl ?_
 refine S.gz (Qt.lv 0 A305 rfl rfl rfl) rfl rfl ?_
 refine S.r 1 rfl ?_
 refine S.gz (Qt.lv 4 A3 rfl rfl rfl) rfl rfl ?_
 refine S.r 1 rfl ?_
 refine S.gz (Qt.lv 0 A3 rfl rfl rfl) rfl rfl ?_
 refine S.r 2 rfl ?_
 refine S.endJ ?_
 refine J.co 4 rfl ?_
 refine O.p (Pu.add' rfl rfl (by decide)) rfl ?_
 refine O.oc 2 rfl ?_
 refine J.again ?_
 refine J.co 11 rfl ?_
 refine O.q (Qt.ix U332 Z336 rfl (Src.row 3 rfl) (j := 3) (a := [.pointer (some ⟨g325, 3, none⟩), .int .i64 1, .int .i64 0, .int .i64 0, .int .i64 127]) rfl rfl rfl) rfl ?_
 refine O.q (Qt.lea A336 Z336 (Src.row 3 rfl) (j := 3) (a := [.pointer (some ⟨g325, 3, none⟩), .int .i64 1, .int .i64 0, .int .i64 0, .int .i64 127]) rfl 0 rfl (by omega) rfl) rfl ?_
 refine O.l (Lo.al Y336 rfl) rfl ?_
 rintro _ _ ⟨g330, rfl, rfl⟩
 refine O.l0 (Lo.st 0 Z336 rfl rfl rfl rfl rfl rfl rfl) ?_
 rintro _ _ rfl
 refine O.oc 2 rfl ?_
 refine J.drawStill Tryz.mixed (by kernel_rfl) ?_
 refine S.r 1 rfl ?_
 refine S.q (Qt.lv 0 A305 rfl rfl rfl) rfl ?_
 refine S.r 1 rfl ?_
 refine S.q (Qt.lv 5 A3 rfl rfl rfl) rfl ?_
 refine S.r 1 rfl ?_
 refine S.q (Qt.lv 0 A3 rfl rfl rfl) rfl ?_
 refine S.r 3 rfl ?_
 refine S.gz (Qt.lv 0 A305 rfl rfl rfl) rfl rfl ?_
 refine S.r 1 rfl ?_
 refine S.gz (Qt.lv 5 A3 rfl rfl rfl) rfl rfl ?_
 refine S.r 1 rfl ?_
 refine S.gz (Qt.lv 0 A3 rfl rfl rfl) rfl rfl ?_
 refine S.r 2 rfl ?_
 refine S.endJ ?_
 refine J.co 4 rfl ?_
 refine O.p (Pu.add' rfl rfl (by decide)) rfl ?_
 refine O.oc 2 rfl ?_
 refine J.again ?_
 refine J.co 11 rfl ?_
 refine O.q (Qt.ix U332 Z336 rfl (Src.row 4 rfl) (j := 4) (a := [.pointer (some ⟨g325, 4, none⟩), .int .i64 6, .int .i64 0, .int .i64 0, .int .i64 1099511627776]) rfl rfl rfl) rfl ?_
 refine O.q (Qt.lea A336 Z336 (Src.row 4 rfl) (j := 4) (a := [.pointer (some ⟨g325, 4, none⟩), .int .i64 6, .int .i64 0, .int .i64 0, .int .i64 1099511627776]) rfl 0 rfl (by omega) rfl) rfl ?_
 refine O.l (Lo.al Y336 rfl) rfl ?_
 rintro _ _ ⟨g331, rfl, rfl⟩
 refine O.l0 (Lo.st 0 Z336 rfl rfl rfl rfl rfl rfl rfl) ?_
 rintro _ _ rfl
 refine O.oc 2 rfl ?_
 refine J.drawStill Tryz.mixed (by kernel_rfl) ?_
 refine S.r 1 rfl ?_
 refine S.q (Qt.lv 0 A305 rfl rfl rfl) rfl ?_
 refine S.r 1 rfl ?_
 refine S.q (Qt.lv 6 A3 rfl rfl rfl) rfl ?_
 refine S.r 1 rfl ?_
 refine S.q (Qt.lv 0 A3 rfl rfl rfl) rfl ?_
 refine S.r 3 rfl ?_
 refine S.gz (Qt.lv 0 A305 rfl rfl rfl) rfl rfl ?_
 refine S.r 1 rfl ?_
 refine S.gz (Qt.lv 6 A3 rfl rfl rfl) rfl rfl ?_
 refine S.r 1 rfl ?_
 refine S.gz (Qt.lv 0 A3 rfl rfl rfl) rfl rfl ?_
 refine S.r 2 rfl ?_
 refine S.endJ ?_
 refine J.co 4 rfl ?_
 refine O.p (Pu.add' rfl rfl (by decide)) rfl ?_
 refine O.oc 2 rfl ?_
 refine J.again ?_
 refine J.co 11 rfl ?_
 refine O.q (Qt.ix U332 Z336 rfl (Src.row 5 rfl) (j := 5) (a := [.pointer (some ⟨g325, 5, none⟩), .int .i64 2, .int .i64 0, .int .i64 0, .int .i64 65535]) rfl rfl rfl) rfl ?_
 refine O.q (Qt.lea A336 Z336 (Src.row 5 rfl) (j := 5) (a := [.pointer (some ⟨g325, 5, none⟩), .int .i64 2, .int .i64 0, .int .i64 0, .int .i64 65535]) rfl 0 rfl (by omega) rfl) rfl ?_
 refine O.l (Lo.al Y336 rfl) rfl ?_
 rintro _ _ ⟨g332, rfl, rfl⟩
 refine O.l0 (Lo.st 0 Z336 rfl rfl rfl rfl rfl rfl rfl) ?_
 rintro _ _ rfl
 refine O.oc 2 rfl ?_
 refine J.drawStill Tryz.mixed (by kernel_rfl) ?_
 refine S.r 1 rfl ?_
 refine S.q (Qt.lv 0 A305 rfl rfl rfl) rfl ?_
 refine S.r 1 rfl ?_
 refine S.q (Qt.lv 7 A3 rfl rfl rfl) rfl ?_
 refine S.r 1 rfl ?_
 refine S.q (Qt.lv 0 A3 rfl rfl rfl) rfl ?_
 refine S.r 3 rfl ?_
 refine S.gz (Qt.lv 0 A305 rfl rfl rfl) rfl rfl ?_
 refine S.r 1 rfl ?_
 refine S.gz (Qt.lv 7 A3 rfl rfl rfl) rfl rfl ?_
 refine S.r 1 rfl ?_
 refine S.gz (Qt.lv 0 A3 rfl rfl rfl) rfl rfl ?_
 refine S.r 2 rfl ?_
 refine S.endJ ?_
 refine J.co 4 rfl ?_
 refine O.p (Pu.add' rfl rfl (by decide)) rfl ?_
 refine O.oc 2 rfl ?_
 refine J.again ?_
 refine J.co 11 rfl ?_
 refine O.q (Qt.lv 7 A3 rfl rfl rfl) rfl ?_
 refine O.oo 1 rfl ?_
 refine O.q (Qt.lv 7 A3 rfl rfl rfl) rfl ?_
 refine O.oc 8 rfl ?_
 exact J.r0 rfl rfl ⟨rfl, rfl⟩

set_option maxRecDepth 100000 in
theorem nb180 (g228 : Nat) (g235 : Nat) (V230 : Value) (V233 : Value) (g240 : Nat) (g243 : Nat) (g246 : Nat) (b224 : Nat) (g225 : Nat) (g247 : Nat) : Tri Tryz.prog 78 #[.pointer (some ⟨g228, 0, none⟩), .agg #[.int .i64 2, .int .i64 (-1), .int .i64 0, .int .i64 3, .int .i64 50, .int .i64 9]] [] [var g228 [.pointer (some ⟨g235, 0, none⟩), .int .i64 2, .int .i64 4, .int .i64 1000, .int .u64 1, V230, .int .i64 0, .int .i64 1, .int .i64 1, .int .i64 10, .int .i64 1, .int .i64 64, .int .i64 20, .int .i64 1, .int .i64 4, .int .i64 10, .int .i64 5, .int .i64 1, .int .i64 3, .int .i64 2, V233, .int .i64 0, .int .i64 0, .int .i64 1, .int .i64 0, .pointer (some ⟨g240, 0, none⟩), .pointer (some ⟨g243, 0, none⟩), .pointer (some ⟨g246, 0, none⟩), .map (some b224), .pointer (some ⟨g225, 0, none⟩), .pointer (some ⟨g247, 0, none⟩)] 90, row V230 56 14 ([[.int .i64 1, .int .i64 1, .int .i64 10, .int .i64 1, .int .i64 64, .int .i64 20, .int .i64 1, .int .i64 4, .int .i64 10, .int .i64 5, .int .i64 1, .int .i64 3, .int .i64 2, Value.slice none 0 0]].map id)] (fun v L' => v = .bool true ∧ L' = [var g228 [.pointer (some ⟨g235, 0, none⟩), .int .i64 2, .int .i64 4, .int .i64 1000, .int .u64 1, V230, .int .i64 0, .int .i64 1, .int .i64 1, .int .i64 10, .int .i64 1, .int .i64 64, .int .i64 20, .int .i64 1, .int .i64 4, .int .i64 10, .int .i64 5, .int .i64 1, .int .i64 3, .int .i64 2, V233, .int .i64 0, .int .i64 0, .int .i64 1, .int .i64 0, .pointer (some ⟨g240, 0, none⟩), .pointer (some ⟨g243, 0, none⟩), .pointer (some ⟨g246, 0, none⟩), .map (some b224), .pointer (some ⟨g225, 0, none⟩), .pointer (some ⟨g247, 0, none⟩)] 90, row V230 56 14 ([[.int .i64 1, .int .i64 1, .int .i64 10, .int .i64 1, .int .i64 64, .int .i64 20, .int .i64 1, .int .i64 4, .int .i64 10, .int .i64 5, .int .i64 1, .int .i64 3, .int .i64 2, Value.slice none 0 0]].map id)]) := by
 refine Tri.en F78 rfl K78 rfl fun w0 => ?_
 refine J.co 2 rfl ?_
 refine O.l (Lo.bx rfl rfl) rfl ?_
 rintro _ _ ⟨g324, rfl, rfl⟩
 refine O.oc 3 rfl ?_
 refine J.dm [(0, false), (1, true), (2, false), (3, false), (4, false), (5, false), (6, false), (7, false), (8, false), (9, false), (10, false), (11, false), (12, false), (13, false), (14, false), (15, false), (16, false), (17, false), (18, false), (19, false), (20, true), (21, false), (22, false), (23, false), (24, false), (25, false), (26, false), (27, false), (28, false), (29, false), (30, true), (31, false), (32, false), (33, false)] [0, 1] Tryz.mixed (by kernel_rfl) rfl ?_
 refine Mx.q rfl (Qt.lva 0 A41 Z41 rfl rfl rfl) rfl ?_
 refine Mx.l rfl (Lo.ca C175 nb179 [] rfl rfl .nil) rfl ?_
 rintro _ _ ⟨_, ⟨rfl, rfl⟩, rfl⟩
 refine MxK.al [0, 1] rfl (by kernel_rfl) ?_
 refine Mx.r 3 rfl ?_
 refine Mx.gz (Qt.lv 0 A3 rfl rfl rfl) rfl rfl rfl ?_
 refine Mx.r 3 rfl ?_
 refine Mx.gz (Qt.lv 1 A3 rfl rfl rfl) rfl rfl rfl ?_
 refine Mx.r 4 rfl ?_
 refine Mx.gz (Qt.lv 0 A3 rfl rfl rfl) rfl rfl rfl ?_
 refine Mx.r 5 rfl ?_
 refine Mx.gskipL (t := 21) rfl rfl rfl (no_bool (by decide)) rfl rfl ?_
 refine MxK.gp [0, 1] [0, 1] rfl rfl ?_
 refine Mx.r 4 rfl ?_
 refine Mx.gz (Qt.lv 0 A3 rfl rfl rfl) rfl rfl rfl ?_
 refine Mx.r 3 rfl ?_
 refine Mx.gz (Qt.lva 1 A25 Z25 rfl rfl rfl) rfl rfl rfl ?_
 refine Mx.gy (Lo.ca C52 (nb98 V230) [2] rfl rfl .nil) rfl rfl rfl ?_
 rintro _ _ ⟨_, ⟨rfl, rfl⟩, rfl⟩
 refine MxK.gp [1, 2] [0, 1] rfl rfl ?_
 refine Mx.r 3 rfl ?_
 refine Mx.nil ?_
 exact J.r1 [2, 0] rfl rfl rfl ⟨rfl, rfl⟩

set_option maxRecDepth 100000 in
theorem nb181 (g244 : Nat) (b245 : Nat) (V288 : Value) : Tri Tryz.prog 314 #[.pointer (some ⟨g244, 0, none⟩), .int .i64 2] [] [var g244 [.map (some b245), .int .i64 1, vcut V288 7 0 (0 : Int).toNat] 294, mi b245 (Value.int .i64) ([] : List (Int × Int))] (fun v L' => v = .tuple #[.int .i64 0, .bool false] ∧ L' = [var g244 [.map (some b245), .int .i64 1, vcut V288 7 0 (0 : Int).toNat] 294, mi b245 (Value.int .i64) ([] : List (Int × Int))]) := by
 refine Tri.en F314 rfl K314 rfl fun w0 => ?_
 refine J.co 10 rfl ?_
 refine O.q (Qt.lv 0 A178 rfl rfl rfl) rfl ?_
 refine O.oo 1 rfl ?_
 refine O.q (Qt.lkOk (V := .int .i64 0) (q := false) N178 N3 Y3 rfl rfl (Mc.own 1 b245 rfl rfl) rfl rfl) rfl ?_
 refine O.oc 13 rfl ?_
 exact J.rn [_, _] [0, 1] rfl ⟨rfl, rfl, trivial⟩ rfl ⟨rfl, rfl⟩

set_option maxRecDepth 100000 in
theorem nb182 (g244 : Nat) (b245 : Nat) (V288 : Value) : Tri Tryz.prog 259 #[.pointer (some ⟨g244, 0, none⟩), .int .i64 2] [] [var g244 [.map (some b245), .int .i64 1, vcut V288 7 0 (0 : Int).toNat] 294, mi b245 (Value.int .i64) ([] : List (Int × Int))] (fun v L' => v = .tuple #[.agg #[.int .i64 0, .int .i64 0, .int .i64 0, .int .i64 0, .int .i64 0, .int .i64 0, .int .i64 0], .bool false] ∧ L' = [var g244 [.map (some b245), .int .i64 1, vcut V288 7 0 (0 : Int).toNat] 294, mi b245 (Value.int .i64) ([] : List (Int × Int))]) := by
 refine Tri.en F259 rfl K259 rfl fun w0 => ?_
 refine J.co 2 rfl ?_
 refine O.l (Lo.al Y66 rfl) rfl ?_
 rintro _ _ ⟨g334, rfl, rfl⟩
 refine O.oo 6 rfl ?_
 refine O.p (Pu.someEq N163 rfl) rfl ?_
 refine O.oo 9 rfl ?_
 refine O.l (Lo.ca C314 (nb181 g244 b245 V288) [1, 2] rfl rfl .nil) rfl ?_
 rintro _ _ ⟨_, ⟨rfl, rfl⟩, rfl⟩
 refine O.oo 15 rfl ?_
 refine O.p (Pu.build [] [.int .i64 0, .int .i64 0, .int .i64 0, .int .i64 0, .int .i64 0, .int .i64 0, .int .i64 0] #[(0, 1), (1, 1), (2, 1), (3, 1), (4, 1), (5, 1), (6, 1)] U66 Y66 (places66 N66) rfl (by kernel_rfl)) rfl ?_
 refine O.l0 (Lo.st 2 Z66 rfl rfl rfl rfl rfl rfl rfl) ?_
 rintro _ _ rfl
 refine O.oc 2 rfl ?_
 exact J.rn [_, _] [0, 1] rfl ⟨⟨_, _, 0, 0, _, rfl, Cel.var 2 rfl, rfl, Cut.agg _ A66 Z66 rfl rfl⟩, rfl, trivial⟩ rfl ⟨rfl, rfl⟩

set_option maxRecDepth 100000 in
theorem nb183 (g243 : Nat) (g244 : Nat) (b245 : Nat) (V288 : Value) : Tri Tryz.prog 176 #[.pointer (some ⟨g243, 0, none⟩), .int .i64 2] [] [var g243 [.pointer (some ⟨g244, 0, none⟩), .int .i64 1] 206, var g244 [.map (some b245), .int .i64 1, vcut V288 7 0 (0 : Int).toNat] 294, mi b245 (Value.int .i64) ([] : List (Int × Int))] (fun v L' => v = .bool false ∧ L' = [var g243 [.pointer (some ⟨g244, 0, none⟩), .int .i64 1] 206, var g244 [.map (some b245), .int .i64 1, vcut V288 7 0 (0 : Int).toNat] 294, mi b245 (Value.int .i64) ([] : List (Int × Int))]) := by
 refine Tri.en F176 rfl K176 rfl fun w0 => ?_
 refine J.co 7 rfl ?_
 refine O.l (Lo.ca C114 (nb115 g243 g244) [0] rfl rfl .nil) rfl ?_
 rintro _ _ ⟨_, ⟨rfl, rfl⟩, rfl⟩
 refine O.oo 1 rfl ?_
 refine O.l (Lo.ca C259 (nb182 g244 b245 V288) [1, 2] rfl rfl .nil) rfl ?_
 rintro _ _ ⟨_, ⟨rfl, rfl⟩, rfl⟩
 refine O.oo 3 rfl ?_
 refine O.l (Lo.al Y66 rfl) rfl ?_
 rintro _ _ ⟨g335, rfl, rfl⟩
 refine O.l0 (Lo.st 0 Z66 rfl rfl rfl rfl rfl rfl rfl) ?_
 rintro _ _ rfl
 refine O.oc 7 rfl ?_
 exact J.r1 [3, 1, 2] rfl rfl rfl ⟨rfl, rfl⟩

set_option maxRecDepth 100000 in
theorem nb184 (g240 : Nat) (V241 : Value) (b242 : Nat) : Tri Tryz.prog 260 #[.pointer (some ⟨g240, 0, none⟩), .int .i64 2] [] [var g240 [V241, .int .i64 0, .int .i64 1, .map (some b242)] 180, mi b242 (Value.int .i64) [(1, 0)]] (fun v L' => v = .bool false ∧ L' = [var g240 [V241, .int .i64 0, .int .i64 1, .map (some b242)] 180, mi b242 (Value.int .i64) [(1, 0)]]) := by
 refine Tri.en F260 rfl K260 rfl fun w0 => ?_
 refine J.co 8 rfl ?_
 refine O.p (Pu.someEq N83 rfl) rfl ?_
 refine O.oo 8 rfl ?_
 refine O.q (Qt.lv 0 A178 rfl rfl rfl) rfl ?_
 refine O.oo 1 rfl ?_
 refine O.q (Qt.lkOk (V := .int .i64 0) (q := false) N178 N3 Y3 rfl rfl (Mc.own 1 b242 rfl rfl) rfl rfl) rfl ?_
 refine O.oc 11 rfl ?_
 exact J.r1 [0, 1] rfl rfl rfl ⟨rfl, rfl⟩

set_option maxRecDepth 100000 in
theorem nb185 (g240 : Nat) (V241 : Value) (b242 : Nat) : Tri Tryz.prog 122 #[.pointer (some ⟨g240, 0, none⟩), .int .i64 1] [] [var g240 [V241, .int .i64 0, .int .i64 1, .map (some b242)] 180, row V241 3 1 ([[.int .i64 1], [.int .i64 0], [.int .i64 0], [.int .i64 0], [.int .i64 0], [.int .i64 0], [.int .i64 0], [.int .i64 0], [.int .i64 0], [.int .i64 0], [.int .i64 0], [.int .i64 0], [.int .i64 0], [.int .i64 0], [.int .i64 0], [.int .i64 0], [.int .i64 0], [.int .i64 0], [.int .i64 0], [.int .i64 0], [.int .i64 0], [.int .i64 0], [.int .i64 0], [.int .i64 0], [.int .i64 0], [.int .i64 0], [.int .i64 0], [.int .i64 0], [.int .i64 0], [.int .i64 0], [.int .i64 0], [.int .i64 0], [.int .i64 0], [.int .i64 0], [.int .i64 0], [.int .i64 0], [.int .i64 0], [.int .i64 0], [.int .i64 0], [.int .i64 0], [.int .i64 0], [.int .i64 0], [.int .i64 0], [.int .i64 0], [.int .i64 0], [.int .i64 0], [.int .i64 0], [.int .i64 0], [.int .i64 0], [.int .i64 0], [.int .i64 0], [.int .i64 0], [.int .i64 0], [.int .i64 0], [.int .i64 0], [.int .i64 0], [.int .i64 0], [.int .i64 0], [.int .i64 0], [.int .i64 0], [.int .i64 0], [.int .i64 0], [.int .i64 0], [.int .i64 0]].map id)] (fun v L' => v = .int .i64 1 ∧ L' = [var g240 [V241, .int .i64 0, .int .i64 1, .map (some b242)] 180, row V241 3 1 ([[.int .i64 1], [.int .i64 0], [.int .i64 0], [.int .i64 0], [.int .i64 0], [.int .i64 0], [.int .i64 0], [.int .i64 0], [.int .i64 0], [.int .i64 0], [.int .i64 0], [.int .i64 0], [.int .i64 0], [.int .i64 0], [.int .i64 0], [.int .i64 0], [.int .i64 0], [.int .i64 0], [.int .i64 0], [.int .i64 0], [.int .i64 0], [.int .i64 0], [.int .i64 0], [.int .i64 0], [.int .i64 0], [.int .i64 0], [.int .i64 0], [.int .i64 0], [.int .i64 0], [.int .i64 0], [.int .i64 0], [.int .i64 0], [.int .i64 0], [.int .i64 0], [.int .i64 0], [.int .i64 0], [.int .i64 0], [.int .i64 0], [.int .i64 0], [.int .i64 0], [.int .i64 0], [.int .i64 0], [.int .i64 0], [.int .i64 0], [.int .i64 0], [.int .i64 0], [.int .i64 0], [.int .i64 0], [.int .i64 0], [.int .i64 0], [.int .i64 0], [.int .i64 0], [.int .i64 0], [.int .i64 0], [.int .i64 0], [.int .i64 0], [.int .i64 0], [.int .i64 0], [.int .i64 0], [.int .i64 0], [.int .i64 0], [.int .i64 0], [.int .i64 0], [.int .i64 0]].map id)]) := by
 refine Tri.en F122 rfl K122 rfl fun w0 => ?_
 refine J.cc 5 rfl ?_
 refine J.drawStill Tryz.mixed (by kernel_rfl) ?_
 refine S.r 3 rfl ?_
 refine S.q (Qt.lv 0 A3 rfl rfl rfl) rfl ?_
 refine S.r 1 rfl ?_
 refine S.p (Pu.add' rfl rfl (by decide)) rfl ?_
 refine S.r 3 rfl ?_
 refine S.q (Qt.lv 0 A60 rfl rfl rfl) rfl ?_
 refine S.q (Qt.lenM U60 rfl (Src.row 1 rfl)) rfl ?_
 refine S.p (Pu.rem rfl rfl (by decide)) rfl ?_
 refine S.r 1 rfl ?_
 refine S.endJ ?_
 exact J.r1 [0, 1] rfl rfl rfl ⟨rfl, rfl⟩

set_option maxRecDepth 100000 in
theorem nb186 (g240 : Nat) (V241 : Value) (b242 : Nat) : Tri Tryz.prog 177 #[.pointer (some ⟨g240, 0, none⟩), .int .i64 2] [] [var g240 [V241, .int .i64 0, .int .i64 1, .map (some b242)] 180, mi b242 (Value.int .i64) [(1, 0)], row V241 3 1 ([[.int .i64 1], [.int .i64 0], [.int .i64 0], [.int .i64 0], [.int .i64 0], [.int .i64 0], [.int .i64 0], [.int .i64 0], [.int .i64 0], [.int .i64 0], [.int .i64 0], [.int .i64 0], [.int .i64 0], [.int .i64 0], [.int .i64 0], [.int .i64 0], [.int .i64 0], [.int .i64 0], [.int .i64 0], [.int .i64 0], [.int .i64 0], [.int .i64 0], [.int .i64 0], [.int .i64 0], [.int .i64 0], [.int .i64 0], [.int .i64 0], [.int .i64 0], [.int .i64 0], [.int .i64 0], [.int .i64 0], [.int .i64 0], [.int .i64 0], [.int .i64 0], [.int .i64 0], [.int .i64 0], [.int .i64 0], [.int .i64 0], [.int .i64 0], [.int .i64 0], [.int .i64 0], [.int .i64 0], [.int .i64 0], [.int .i64 0], [.int .i64 0], [.int .i64 0], [.int .i64 0], [.int .i64 0], [.int .i64 0], [.int .i64 0], [.int .i64 0], [.int .i64 0], [.int .i64 0], [.int .i64 0], [.int .i64 0], [.int .i64 0], [.int .i64 0], [.int .i64 0], [.int .i64 0], [.int .i64 0], [.int .i64 0], [.int .i64 0], [.int .i64 0], [.int .i64 0]].map id)] (fun v L' => v = .bool true ∧ L' = [var g240 [V241, .int .i64 0, .int .i64 2, .map (some b242)] 180, mi b242 (Value.int .i64) [(1, 0), (2, 1)], row V241 3 1 ([[.int .i64 1], [.int .i64 2], [.int .i64 0], [.int .i64 0], [.int .i64 0], [.int .i64 0], [.int .i64 0], [.int .i64 0], [.int .i64 0], [.int .i64 0], [.int .i64 0], [.int .i64 0], [.int .i64 0], [.int .i64 0], [.int .i64 0], [.int .i64 0], [.int .i64 0], [.int .i64 0], [.int .i64 0], [.int .i64 0], [.int .i64 0], [.int .i64 0], [.int .i64 0], [.int .i64 0], [.int .i64 0], [.int .i64 0], [.int .i64 0], [.int .i64 0], [.int .i64 0], [.int .i64 0], [.int .i64 0], [.int .i64 0], [.int .i64 0], [.int .i64 0], [.int .i64 0], [.int .i64 0], [.int .i64 0], [.int .i64 0], [.int .i64 0], [.int .i64 0], [.int .i64 0], [.int .i64 0], [.int .i64 0], [.int .i64 0], [.int .i64 0], [.int .i64 0], [.int .i64 0], [.int .i64 0], [.int .i64 0], [.int .i64 0], [.int .i64 0], [.int .i64 0], [.int .i64 0], [.int .i64 0], [.int .i64 0], [.int .i64 0], [.int .i64 0], [.int .i64 0], [.int .i64 0], [.int .i64 0], [.int .i64 0], [.int .i64 0], [.int .i64 0], [.int .i64 0]].map id)]) := by
 refine Tri.en F177 rfl K177 rfl fun w0 => ?_
 refine J.co 9 rfl ?_
 refine O.l (Lo.ca C260 (nb184 g240 V241 b242) [0, 1] rfl rfl .nil) rfl ?_
 rintro _ _ ⟨_, ⟨rfl, rfl⟩, rfl⟩
 refine O.oo 7 rfl ?_
 refine O.p (Pu.someEq N83 rfl) rfl ?_
 refine O.oo 4 rfl ?_
 refine O.gz (Qt.lv 0 A60 rfl rfl rfl) rfl rfl ?_
 refine O.gz (Qt.lenM U60 rfl (Src.row 2 rfl)) rfl rfl ?_
 refine O.oc 7 rfl ?_
 refine J.drawStill Tryz.mixed (by kernel_rfl) ?_
 refine S.r 3 rfl ?_
 refine S.q (Qt.lv 0 A3 rfl rfl rfl) rfl ?_
 refine S.r 3 rfl ?_
 refine S.q (Qt.lv 0 A60 rfl rfl rfl) rfl ?_
 refine S.q (Qt.lenM U60 rfl (Src.row 2 rfl)) rfl ?_
 refine S.r 1 rfl ?_
 refine S.endJ ?_
 refine J.co 8 rfl ?_
 refine O.q (Qt.lv 0 A3 rfl rfl rfl) rfl ?_
 refine O.l (Lo.ca C122 (nb185 g240 V241 b242) [0, 2] rfl rfl .nil) rfl ?_
 rintro _ _ ⟨_, ⟨rfl, rfl⟩, rfl⟩
 refine O.oc 3 rfl ?_
 refine J.dm [(0, false), (1, false), (2, false), (3, false), (4, false), (5, false), (6, false), (7, false), (8, false), (9, false), (10, false), (11, false), (12, false), (13, true), (14, true), (15, false), (16, true)] [0, 1] Tryz.mixed (by kernel_rfl) rfl ?_
 refine Mx.r 3 rfl ?_
 refine Mx.q rfl (Qt.lv 0 A60 rfl rfl rfl) rfl ?_
 refine Mx.r 4 rfl ?_
 refine Mx.q rfl (Qt.lv 0 A178 rfl rfl rfl) rfl ?_
 refine Mx.r 3 rfl ?_
 refine Mx.q rfl (Qt.ix U60 Z3 rfl (Src.row 1 rfl) (j := 1) (a := [.int .i64 0]) rfl rfl rfl) rfl ?_
 refine Mx.l0 rfl (Lo.storeM 1 (j := 1) (off := 0) (vs := [.int .i64 2]) (e := [.int .i64 0]) [.int .i64 2] rfl rfl rfl rfl (by omega) rfl rfl Z3 rfl rfl rfl rfl rfl) ?_
 rintro _ _ rfl
 refine MxK.al [0, 1] rfl (by kernel_rfl) ?_
 refine Mx.l rfl (Lo.mapEnt 2 N178 N3 Y3 rfl rfl rfl) rfl ?_
 rintro _ _ ⟨V336, x337, rfl, rfl⟩
 refine MxK.al [0, 1] rfl (by kernel_rfl) ?_
 refine Mx.r 1 rfl ?_
 refine Mx.l0 rfl (Lo.entSt (u := 1) 2 rfl rfl rfl rfl) ?_
 rintro _ _ rfl
 refine MxK.al [0, 1] rfl (by kernel_rfl) ?_
 refine Mx.nil ?_
 refine J.co 5 rfl ?_
 refine O.q (Qt.lv 0 A3 rfl rfl rfl) rfl ?_
 refine O.p (Pu.add' rfl rfl (by decide)) rfl ?_
 refine O.oo 2 rfl ?_
 refine O.l0 (Lo.st 0 Z3 rfl rfl rfl rfl rfl rfl rfl) ?_
 rintro _ _ rfl
 refine O.oc 5 rfl ?_
 exact J.r1 [0, 2, 1] rfl rfl rfl ⟨rfl, rfl⟩

set_option maxRecDepth 100000 in
theorem nb187 (g228 : Nat) (g235 : Nat) (V230 : Value) (V233 : Value) (g240 : Nat) (g243 : Nat) (g246 : Nat) (b224 : Nat) (g225 : Nat) (g247 : Nat) (g244 : Nat) (b245 : Nat) (V288 : Value) (V241 : Value) (b242 : Nat) : Tri Tryz.prog 79 #[.pointer (some ⟨g228, 0, none⟩), .int .i64 2] [] [var g228 [.pointer (some ⟨g235, 0, none⟩), .int .i64 2, .int .i64 4, .int .i64 1000, .int .u64 1, V230, .int .i64 0, .int .i64 1, .int .i64 1, .int .i64 10, .int .i64 1, .int .i64 64, .int .i64 20, .int .i64 1, .int .i64 4, .int .i64 10, .int .i64 5, .int .i64 1, .int .i64 3, .int .i64 2, V233, .int .i64 0, .int .i64 0, .int .i64 1, .int .i64 0, .pointer (some ⟨g240, 0, none⟩), .pointer (some ⟨g243, 0, none⟩), .pointer (some ⟨g246, 0, none⟩), .map (some b224), .pointer (some ⟨g225, 0, none⟩), .pointer (some ⟨g247, 0, none⟩)] 90, mi b224 (id : Value → Value) [(1, (.agg #[.int .i64 1, .int .i64 2, .int .i64 (-1), .int .i64 50, .int .i64 9, .int .i64 0, .int .i64 1, .int .i64 1, Value.slice none 0 0] : Value))], var g243 [.pointer (some ⟨g244, 0, none⟩), .int .i64 1] 206, var g244 [.map (some b245), .int .i64 1, vcut V288 7 0 (0 : Int).toNat] 294, mi b245 (Value.int .i64) ([] : List (Int × Int)), var g240 [V241, .int .i64 0, .int .i64 1, .map (some b242)] 180, mi b242 (Value.int .i64) [(1, 0)], row V241 3 1 ([[.int .i64 1], [.int .i64 0], [.int .i64 0], [.int .i64 0], [.int .i64 0], [.int .i64 0], [.int .i64 0], [.int .i64 0], [.int .i64 0], [.int .i64 0], [.int .i64 0], [.int .i64 0], [.int .i64 0], [.int .i64 0], [.int .i64 0], [.int .i64 0], [.int .i64 0], [.int .i64 0], [.int .i64 0], [.int .i64 0], [.int .i64 0], [.int .i64 0], [.int .i64 0], [.int .i64 0], [.int .i64 0], [.int .i64 0], [.int .i64 0], [.int .i64 0], [.int .i64 0], [.int .i64 0], [.int .i64 0], [.int .i64 0], [.int .i64 0], [.int .i64 0], [.int .i64 0], [.int .i64 0], [.int .i64 0], [.int .i64 0], [.int .i64 0], [.int .i64 0], [.int .i64 0], [.int .i64 0], [.int .i64 0], [.int .i64 0], [.int .i64 0], [.int .i64 0], [.int .i64 0], [.int .i64 0], [.int .i64 0], [.int .i64 0], [.int .i64 0], [.int .i64 0], [.int .i64 0], [.int .i64 0], [.int .i64 0], [.int .i64 0], [.int .i64 0], [.int .i64 0], [.int .i64 0], [.int .i64 0], [.int .i64 0], [.int .i64 0], [.int .i64 0], [.int .i64 0]].map id)] (fun v L' => v = .bool false ∧ L' = [var g228 [.pointer (some ⟨g235, 0, none⟩), .int .i64 2, .int .i64 4, .int .i64 1000, .int .u64 1, V230, .int .i64 0, .int .i64 1, .int .i64 1, .int .i64 10, .int .i64 1, .int .i64 64, .int .i64 20, .int .i64 1, .int .i64 4, .int .i64 10, .int .i64 5, .int .i64 1, .int .i64 3, .int .i64 2, V233, .int .i64 0, .int .i64 0, .int .i64 1, .int .i64 0, .pointer (some ⟨g240, 0, none⟩), .pointer (some ⟨g243, 0, none⟩), .pointer (some ⟨g246, 0, none⟩), .map (some b224), .pointer (some ⟨g225, 0, none⟩), .pointer (some ⟨g247, 0, none⟩)] 90, mi b224 (id : Value → Value) [(1, (.agg #[.int .i64 1, .int .i64 2, .int .i64 (-1), .int .i64 50, .int .i64 9, .int .i64 0, .int .i64 1, .int .i64 1, Value.slice none 0 0] : Value))], var g243 [.pointer (some ⟨g244, 0, none⟩), .int .i64 1] 206, var g244 [.map (some b245), .int .i64 1, vcut V288 7 0 (0 : Int).toNat] 294, mi b245 (Value.int .i64) ([] : List (Int × Int)), var g240 [V241, .int .i64 0, .int .i64 2, .map (some b242)] 180, mi b242 (Value.int .i64) [(1, 0), (2, 1)], row V241 3 1 ([[.int .i64 1], [.int .i64 2], [.int .i64 0], [.int .i64 0], [.int .i64 0], [.int .i64 0], [.int .i64 0], [.int .i64 0], [.int .i64 0], [.int .i64 0], [.int .i64 0], [.int .i64 0], [.int .i64 0], [.int .i64 0], [.int .i64 0], [.int .i64 0], [.int .i64 0], [.int .i64 0], [.int .i64 0], [.int .i64 0], [.int .i64 0], [.int .i64 0], [.int .i64 0], [.int .i64 0], [.int .i64 0], [.int .i64 0], [.int .i64 0], [.int .i64 0], [.int .i64 0], [.int .i64 0], [.int .i64 0], [.int .i64 0], [.int .i64 0], [.int .i64 0], [.int .i64 0], [.int .i64 0], [.int .i64 0], [.int .i64 0], [.int .i64 0], [.int .i64 0], [.int .i64 0], [.int .i64 0], [.int .i64 0], [.int .i64 0], [.int .i64 0], [.int .i64 0], [.int .i64 0], [.int .i64 0], [.int .i64 0], [.int .i64 0], [.int .i64 0], [.int .i64 0], [.int .i64 0], [.int .i64 0], [.int .i64 0], [.int .i64 0], [.int .i64 0], [.int .i64 0], [.int .i64 0], [.int .i64 0], [.int .i64 0], [.int .i64 0], [.int .i64 0], [.int .i64 0]].map id)]) := by
 refine Tri.en F79 rfl K79 rfl fun w0 => ?_
 refine J.co 9 rfl ?_
 refine O.q (Qt.lv 0 A86 rfl rfl rfl) rfl ?_
 refine O.oo 1 rfl ?_
 refine O.q (Qt.lkOk (V := .agg #[.int .i64 0, .int .i64 0, .int .i64 0, .int .i64 0, .int .i64 0, .int .i64 0, .int .i64 0, .int .i64 0, Value.slice none 0 0]) (q := false) N86 N3 Y68 rfl rfl (Mc.own 1 b224 rfl rfl) rfl rfl) rfl ?_
 refine O.oo 3 rfl ?_
 refine O.l (Lo.al Y68 rfl) rfl ?_
 rintro _ _ ⟨g333, rfl, rfl⟩
 refine O.l0 (Lo.st 0 Z68 rfl rfl rfl rfl rfl rfl rfl) ?_
 rintro _ _ rfl
 refine O.oo 9 rfl ?_
 refine O.gz (Qt.lv 1 A84 rfl rfl rfl) rfl rfl ?_
 refine O.oo 1 rfl ?_
 refine O.gy (Lo.ca C176 (nb183 g243 g244 b245 V288) [3, 4, 5] rfl rfl .nil) rfl rfl ?_
 rintro _ _ ⟨_, ⟨rfl, rfl⟩, rfl⟩
 refine O.oo 5 rfl ?_
 refine O.gz (Qt.lv 4 A83 rfl rfl rfl) rfl rfl ?_
 refine O.oo 1 rfl ?_
 refine O.gy (Lo.ca C177 (nb186 g240 V241 b242) [6, 7, 8] rfl rfl .nil) rfl rfl ?_
 rintro _ _ ⟨_, ⟨rfl, rfl⟩, rfl⟩
 refine O.oc 4 rfl ?_
 exact J.r1 [7, 8, 3, 4, 5, 0, 1, 2] rfl rfl rfl ⟨rfl, rfl⟩

set_option maxRecDepth 100000 in
theorem nb188 (g238 : Nat) : Tri Tryz.prog 315 #[.pointer (some ⟨g238, 0, none⟩), .int .i64 3] [] [var g238 (.int .i64 8 :: .int .i64 0 :: .int .i64 0 :: .int .i64 1 :: (rp 125 (.int .i64 0) [])) 302] (fun v L' => v = .bool true ∧ L' = [var g238 (.int .i64 8 :: .int .i64 0 :: .int .i64 0 :: .int .i64 1 :: (rp 125 (.int .i64 0) [])) 302]) := by
 refine Tri.en F315 rfl K315 rfl fun w0 => ?_
 refine J.co 7 rfl ?_
 refine O.p (Pu.ptrNe N169 rfl) rfl ?_
 refine O.oo 9 rfl ?_
 refine O.gz (Qt.lv 0 A3 rfl rfl rfl) rfl rfl ?_
 refine O.oc 4 rfl ?_
 exact J.r1 [0] rfl rfl rfl ⟨rfl, rfl⟩

set_option maxRecDepth 100000 in
theorem nb189 (g238 : Nat) : Tri Tryz.prog 261 #[.pointer (some ⟨g238, 0, none⟩), .int .i64 3, .int .i64 1] [] [var g238 (.int .i64 8 :: .int .i64 0 :: .int .i64 0 :: .int .i64 1 :: (rp 125 (.int .i64 0) [])) 302] (fun v L' => v = .bool true ∧ L' = [var g238 (.int .i64 8 :: .int .i64 0 :: .int .i64 0 :: .int .i64 1 :: .int .i64 1 :: (rp 124 (.int .i64 0) [])) 302]) := by
 refine Tri.en F261 rfl K261 rfl fun w0 => ?_
 refine J.co 9 rfl ?_
 refine O.l (Lo.ca C315 (nb188 g238) [0] rfl rfl .nil) rfl ?_
 rintro _ _ ⟨_, ⟨rfl, rfl⟩, rfl⟩
 refine O.oc 5 rfl ?_
 refine J.dm [(0, false), (1, false), (2, false), (3, false), (4, false), (5, false), (6, false), (7, false), (8, false), (10, false), (11, false), (9, true), (12, false), (13, true)] [0] Tryz.mixed (by kernel_rfl) rfl ?_
 refine Mx.r 6 rfl ?_
 refine Mx.p rfl (Pu.indexAddrK 4 U300 Z3 rfl rfl (by decide) (by decide) rfl) rfl ?_
 refine Mx.q rfl (Qt.lv 0 A3 rfl rfl rfl) rfl ?_
 refine Mx.r 3 rfl ?_
 refine Mx.l rfl (Lo.ca C288 nb129 [] rfl rfl .nil) rfl ?_
 rintro _ _ ⟨_, ⟨rfl, rfl⟩, rfl⟩
 refine MxK.gp [0] [0] rfl rfl ?_
 refine Mx.p rfl (Pu.indexAddrK 4 U300 Z3 rfl rfl (by decide) (by decide) rfl) rfl ?_
 refine Mx.l0 rfl (Lo.st 0 Z3 rfl rfl rfl rfl rfl rfl rfl) ?_
 rintro _ _ rfl
 refine MxK.al [0] rfl (by kernel_rfl) ?_
 refine Mx.nil ?_
 refine J.cc 4 rfl ?_
 exact J.r1 [0] rfl rfl rfl ⟨rfl, rfl⟩

set_option maxRecDepth 100000 in
theorem nb190 (g238 : Nat) : Tri Tryz.prog 178 #[.pointer (some ⟨g238, 0, none⟩), .int .i64 3] [] [var g238 (.int .i64 8 :: .int .i64 0 :: .int .i64 0 :: .int .i64 1 :: (rp 125 (.int .i64 0) [])) 302] (fun v L' => v = .bool true ∧ L' = [var g238 (.int .i64 8 :: .int .i64 0 :: .int .i64 0 :: .int .i64 1 :: .int .i64 1 :: (rp 124 (.int .i64 0) [])) 302]) := by
 refine Tri.en F178 rfl K178 rfl fun w0 => ?_
 refine J.co 8 rfl ?_
 refine O.l (Lo.ca C261 (nb189 g238) [0] rfl rfl .nil) rfl ?_
 rintro _ _ ⟨_, ⟨rfl, rfl⟩, rfl⟩
 refine O.oc 2 rfl ?_
 exact J.r1 [0] rfl rfl rfl ⟨rfl, rfl⟩

set_option maxRecDepth 100000 in
theorem nb191 (g235 : Nat) (g236 : Nat) (g237 : Nat) (g238 : Nat) (g239 : Nat) : Tri Tryz.prog 81 #[.pointer (some ⟨g235, 0, none⟩), .int .i64 3] [] [var g235 [.pointer (some ⟨g236, 0, none⟩), .pointer (some ⟨g237, 0, none⟩), .int .i64 8, .int .i64 1, .int .i64 1, .int .i64 4, .int .i64 10, .int .i64 5, .int .i64 1, .int .i64 3, .int .i64 2, .pointer (some ⟨g238, 0, none⟩), .pointer (some ⟨g239, 0, none⟩), .int .i64 8, .int .i64 1] 172, var g238 (.int .i64 8 :: .int .i64 0 :: .int .i64 0 :: .int .i64 1 :: (rp 125 (.int .i64 0) [])) 302] (fun v L' => v = .bool true ∧ L' = [var g235 [.pointer (some ⟨g236, 0, none⟩), .pointer (some ⟨g237, 0, none⟩), .int .i64 8, .int .i64 1, .int .i64 1, .int .i64 4, .int .i64 10, .int .i64 5, .int .i64 1, .int .i64 3, .int .i64 2, .pointer (some ⟨g238, 0, none⟩), .pointer (some ⟨g239, 0, none⟩), .int .i64 8, .int .i64 1] 172, var g238 (.int .i64 8 :: .int .i64 0 :: .int .i64 0 :: .int .i64 1 :: .int .i64 1 :: (rp 124 (.int .i64 0) [])) 302]) := by
 refine Tri.en F81 rfl K81 rfl fun w0 => ?_
 refine J.co 7 rfl ?_
 refine O.l (Lo.ca C173 (nb123 g235 g236 g237 g238 g239) [0] rfl rfl .nil) rfl ?_
 rintro _ _ ⟨_, ⟨rfl, rfl⟩, rfl⟩
 refine O.oo 4 rfl ?_
 refine O.gz (Qt.lv 0 A169 rfl rfl rfl) rfl rfl ?_
 refine O.oo 1 rfl ?_
 refine O.gy (Lo.ca C178 (nb190 g238) [1] rfl rfl .nil) rfl rfl ?_
 rintro _ _ ⟨_, ⟨rfl, rfl⟩, rfl⟩
 refine O.oc 3 rfl ?_
 exact J.r1 [1, 0] rfl rfl rfl ⟨rfl, rfl⟩

set_option maxRecDepth 100000 in
theorem nb192 : Tri Tryz.prog 262 #[.int .i64 3, .int .i64 8] [] [] (fun v L' => v = .bool true ∧ L' = []) := by
 refine Tri.en F262 rfl K262 rfl fun w0 => ?_
 refine J.cc 15 rfl ?_
 exact J.r0 rfl rfl ⟨rfl, rfl⟩

set_option maxRecDepth 100000 in
theorem nb193 (g235 : Nat) (g236 : Nat) (g237 : Nat) (g238 : Nat) (g239 : Nat) : Tri Tryz.prog 179 #[.pointer (some ⟨g235, 0, none⟩), .int .i64 3] [] [var g235 [.pointer (some ⟨g236, 0, none⟩), .pointer (some ⟨g237, 0, none⟩), .int .i64 8, .int .i64 1, .int .i64 1, .int .i64 4, .int .i64 10, .int .i64 5, .int .i64 1, .int .i64 3, .int .i64 2, .pointer (some ⟨g238, 0, none⟩), .pointer (some ⟨g239, 0, none⟩), .int .i64 8, .int .i64 1] 172] (fun v L' => v = .bool true ∧ L' = [var g235 [.pointer (some ⟨g236, 0, none⟩), .pointer (some ⟨g237, 0, none⟩), .int .i64 8, .int .i64 1, .int .i64 1, .int .i64 4, .int .i64 10, .int .i64 5, .int .i64 1, .int .i64 3, .int .i64 2, .pointer (some ⟨g238, 0, none⟩), .pointer (some ⟨g239, 0, none⟩), .int .i64 8, .int .i64 1] 172]) := by
 refine Tri.en F179 rfl K179 rfl fun w0 => ?_
 refine J.co 8 rfl ?_
 refine O.l (Lo.ca C44 (nb133 g235 g236 g237 g238 g239) [0] rfl rfl .nil) rfl ?_
 rintro _ _ ⟨_, ⟨rfl, rfl⟩, rfl⟩
 refine O.l (Lo.ca C262 nb192 [] rfl rfl .nil) rfl ?_
 rintro _ _ ⟨_, ⟨rfl, rfl⟩, rfl⟩
 refine O.oc 2 rfl ?_
 exact J.r1 [0] rfl rfl rfl ⟨rfl, rfl⟩

end Go.Proofs.YtohjlkjhpibkmaaGreatDoor
