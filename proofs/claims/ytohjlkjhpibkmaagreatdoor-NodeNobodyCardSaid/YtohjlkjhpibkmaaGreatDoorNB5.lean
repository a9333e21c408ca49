/-
  Runs that are known throughout, printed by a program of mine.
-/
import Derived.KernelRfl
import Derived.Test.YtohjlkjhpibkmaaGreatDoorFo
import Derived.Test.YtohjlkjhpibkmaaGreatDoorLkG
import Derived.Test.YtohjlkjhpibkmaaGreatDoorNumsT
import Derived.Test.YtohjlkjhpibkmaaGreatDoorVXA
import Derived.Test.YtohjlkjhpibkmaaGreatDoorNB4
namespace Go.Proofs.YtohjlkjhpibkmaaGreatDoor
open Go Go.LK
set_option linter.unusedSimpArgs false
set_option linter.unusedVariables false

set_option maxRecDepth 100000 in
theorem nb251 (V416 : Value) : Tri Tryz.prog 343 #[V416] [] [row V416 3 1 ([[.int .i64 (-1)], [.int .i64 1]].map id)] (fun v L' => v = .int .i64 (-1) ∧ L' = [row V416 3 1 ([[.int .i64 (-1)], [.int .i64 1]].map id)]) := by
 refine Tri.en F343 rfl K343 rfl fun w0 => ?_
 refine J.co 8 rfl ?_
 refine O.q (Qt.lenM U60 rfl (Src.row 0 rfl)) rfl ?_
 refine O.oc 3 rfl ?_
 refine J.un ?_
 refine J.co 11 rfl ?_
 refine O.q (Qt.ix U60 Z3 rfl (Src.row 0 rfl) (j := 0) (a := [.int .i64 (-1)]) rfl rfl rfl) rfl ?_
 refine O.q (Qt.le A3 (Src.row 0 rfl) (j := 0) (a := [.int .i64 (-1)]) rfl 0 rfl (by omega) rfl) rfl ?_
 refine O.oc 13 rfl ?_
 exact J.r1 [0] rfl rfl rfl ⟨rfl, rfl⟩

set_option maxRecDepth 100000 in
theorem nb252 : Tri Tryz.prog 320 #[.agg #[.int .i64 3, .int .i64 1, .int .i64 (-1), .int .i64 50, .int .i64 9, .int .i64 0, .int .i64 3], .agg #[.int .i64 2, .int .i64 3, .int .i64 (-1), .int .i64 50, .int .i64 9, .int .i64 0, .int .i64 2]] [] [] (fun v L' => v = .bool false ∧ L' = []) := by
 refine Tri.en F320 rfl K320 rfl fun w0 => ?_
 refine J.co 2 rfl ?_
 refine O.l (Lo.bx rfl rfl) rfl ?_
 rintro _ _ ⟨g411, rfl, rfl⟩
 refine O.l (Lo.bx rfl rfl) rfl ?_
 rintro _ _ ⟨g412, rfl, rfl⟩
 refine O.oc 3 rfl ?_
 refine J.dm [(0, false), (1, false), (2, false), (3, false), (5, false), (6, false), (4, true), (7, true), (8, true), (9, true), (10, false), (11, false)] [0, 1] Tryz.mixed (by kernel_rfl) rfl ?_
 refine Mx.r 1 rfl ?_
 refine Mx.q rfl (Qt.lv 1 A3 rfl rfl rfl) rfl ?_
 refine Mx.r 1 rfl ?_
 refine Mx.q rfl (Qt.lv 0 A3 rfl rfl rfl) rfl ?_
 refine Mx.q rfl (Qt.lva 1 A66 Z66 rfl rfl rfl) rfl ?_
 refine Mx.q rfl (Qt.lva 0 A66 Z66 rfl rfl rfl) rfl ?_
 refine Mx.l rfl (Lo.ca C344 nb247 [] rfl rfl .nil) rfl ?_
 rintro _ _ ⟨_, ⟨rfl, rfl⟩, rfl⟩
 refine MxK.gp [0, 1] [0, 1] rfl rfl ?_
 refine Mx.l rfl (Lo.ca C295 nb250 [] rfl rfl .nil) rfl ?_
 rintro _ _ ⟨_, ⟨rfl, rfl⟩, rfl⟩
 refine MxK.al [0, 1] rfl (by kernel_rfl) ?_
 refine Mx.l rfl (Lo.bm id [[.int .i64 (-1)], [.int .i64 1]] U60 Z3 Y3 rfl rfl rfl (by kernel_rfl) rfl rfl) rfl ?_
 rintro V416 _ rfl
 refine MxK.al [1, 2] rfl (by kernel_rfl) ?_
 refine Mx.l rfl (Lo.ca C343 (nb251 V416) [0] rfl rfl .nil) rfl ?_
 rintro _ _ ⟨_, ⟨rfl, rfl⟩, rfl⟩
 refine MxK.gp [1, 2] [0, 1] rfl rfl ?_
 refine Mx.r 2 rfl ?_
 refine Mx.nil ?_
 exact J.r0 rfl rfl ⟨rfl, rfl⟩

set_option maxRecDepth 100000 in
theorem nb253 : Tri Tryz.prog 319 #[.agg #[.int .i64 3, .int .i64 1, .int .i64 (-1), .int .i64 50, .int .i64 9, .int .i64 0, .int .i64 3], .agg #[.int .i64 2, .int .i64 3, .int .i64 (-1), .int .i64 50, .int .i64 9, .int .i64 0, .int .i64 2]] [] [] (fun v L' => v = .bool false ∧ L' = []) := by
 refine Tri.en F319 rfl K319 rfl fun w0 => ?_
 refine J.co 2 rfl ?_
 refine O.l (Lo.bx rfl rfl) rfl ?_
 rintro _ _ ⟨g409, rfl, rfl⟩
 refine O.l (Lo.bx rfl rfl) rfl ?_
 rintro _ _ ⟨g410, rfl, rfl⟩
 refine O.oo 4 rfl ?_
 refine O.q (Qt.lva 1 A66 Z66 rfl rfl rfl) rfl ?_
 refine O.q (Qt.lva 0 A66 Z66 rfl rfl rfl) rfl ?_
 refine O.l (Lo.ca C320 nb252 [] rfl rfl .nil) rfl ?_
 rintro _ _ ⟨_, ⟨rfl, rfl⟩, rfl⟩
 refine O.oc 2 rfl ?_
 exact J.r0 rfl rfl ⟨rfl, rfl⟩

set_option maxRecDepth 100000 in
theorem nb254 (V398 : Value) : Tri Tryz.prog 318 #[V398, .func (.func 319) #[] #[]] [] [row V398 66 7 ([[.int .i64 2, .int .i64 3, .int .i64 (-1), .int .i64 50, .int .i64 9, .int .i64 0, .int .i64 2], [.int .i64 3, .int .i64 1, .int .i64 (-1), .int .i64 50, .int .i64 9, .int .i64 0, .int .i64 3]].map id)] (fun v L' => v = .tuple #[.int .i64 0, .bool true] ∧ L' = [row V398 66 7 ([[.int .i64 2, .int .i64 3, .int .i64 (-1), .int .i64 50, .int .i64 9, .int .i64 0, .int .i64 2], [.int .i64 3, .int .i64 1, .int .i64 (-1), .int .i64 50, .int .i64 9, .int .i64 0, .int .i64 3]].map id)]) := by
 refine Tri.en F318 rfl K318 rfl fun w0 => ?_
 refine J.co 13 rfl ?_
 refine O.q (Qt.lenM U52 rfl (Src.row 0 rfl)) rfl ?_
 refine O.oc 3 rfl ?_
 refine J.un ?_
 refine J.co 12 rfl ?_
 refine O.q (Qt.ix U52 Z66 rfl (Src.row 0 rfl) (j := 0) (a := [.int .i64 2, .int .i64 3, .int .i64 (-1), .int .i64 50, .int .i64 9, .int .i64 0, .int .i64 2]) rfl rfl rfl) rfl ?_
 refine O.q (Qt.lea A66 Z66 (Src.row 0 rfl) (j := 0) (a := [.int .i64 2, .int .i64 3, .int .i64 (-1), .int .i64 50, .int .i64 9, .int .i64 0, .int .i64 2]) rfl 0 rfl (by omega) rfl) rfl ?_
 refine O.l (Lo.al Y66 rfl) rfl ?_
 rintro _ _ ⟨g399, rfl, rfl⟩
 refine O.oo 1 rfl ?_
 refine O.l0 (Lo.st 0 Z66 rfl rfl rfl rfl rfl rfl rfl) ?_
 rintro _ _ rfl
 refine O.oc 2 rfl ?_
 refine J.drawTail 6 Tryz.mixed (by kernel_rfl) ?_
 refine S.r 1 rfl ?_
 refine S.q (Qt.lva 0 A66 Z66 rfl rfl rfl) rfl ?_
 refine S.r 2 rfl ?_
 refine S.q (Qt.ix U52 Z66 rfl (Src.row 1 rfl) (j := 0) (a := [.int .i64 2, .int .i64 3, .int .i64 (-1), .int .i64 50, .int .i64 9, .int .i64 0, .int .i64 2]) rfl rfl rfl) rfl ?_
 refine S.q (Qt.lea A66 Z66 (Src.row 1 rfl) (j := 0) (a := [.int .i64 2, .int .i64 3, .int .i64 (-1), .int .i64 50, .int .i64 9, .int .i64 0, .int .i64 2]) rfl 0 rfl (by omega) rfl) rfl ?_
 refine S.endO ?_
 refine O.l (Lo.cv C319 rfl rfl nb245 [] rfl .nil) rfl ?_
 rintro _ _ ⟨_, ⟨rfl, rfl⟩, rfl⟩
 refine O.oo 5 rfl ?_
 refine O.p (Pu.add' rfl rfl (by decide)) rfl ?_
 refine O.oc 2 rfl ?_
 refine J.again ?_
 refine J.co 12 rfl ?_
 refine O.q (Qt.ix U52 Z66 rfl (Src.row 1 rfl) (j := 1) (a := [.int .i64 3, .int .i64 1, .int .i64 (-1), .int .i64 50, .int .i64 9, .int .i64 0, .int .i64 3]) rfl rfl rfl) rfl ?_
 refine O.q (Qt.lea A66 Z66 (Src.row 1 rfl) (j := 1) (a := [.int .i64 3, .int .i64 1, .int .i64 (-1), .int .i64 50, .int .i64 9, .int .i64 0, .int .i64 3]) rfl 0 rfl (by omega) rfl) rfl ?_
 refine O.l (Lo.al Y66 rfl) rfl ?_
 rintro _ _ ⟨g408, rfl, rfl⟩
 refine O.oo 1 rfl ?_
 refine O.l0 (Lo.st 0 Z66 rfl rfl rfl rfl rfl rfl rfl) ?_
 rintro _ _ rfl
 refine O.oc 2 rfl ?_
 refine J.drawTail 6 Tryz.mixed (by kernel_rfl) ?_
 refine S.r 1 rfl ?_
 refine S.q (Qt.lva 0 A66 Z66 rfl rfl rfl) rfl ?_
 refine S.r 2 rfl ?_
 refine S.q (Qt.ix U52 Z66 rfl (Src.row 2 rfl) (j := 0) (a := [.int .i64 2, .int .i64 3, .int .i64 (-1), .int .i64 50, .int .i64 9, .int .i64 0, .int .i64 2]) rfl rfl rfl) rfl ?_
 refine S.q (Qt.lea A66 Z66 (Src.row 2 rfl) (j := 0) (a := [.int .i64 2, .int .i64 3, .int .i64 (-1), .int .i64 50, .int .i64 9, .int .i64 0, .int .i64 2]) rfl 0 rfl (by omega) rfl) rfl ?_
 refine S.endO ?_
 refine O.l (Lo.cv C319 rfl rfl nb253 [] rfl .nil) rfl ?_
 rintro _ _ ⟨_, ⟨rfl, rfl⟩, rfl⟩
 refine O.oo 5 rfl ?_
 refine O.p (Pu.add' rfl rfl (by decide)) rfl ?_
 refine O.oc 2 rfl ?_
 refine J.again ?_
 refine J.co 11 rfl ?_
 refine O.q (Qt.lenM U52 rfl (Src.row 2 rfl)) rfl ?_
 refine O.oc 4 rfl ?_
 exact J.rn [_, _] [2] rfl ⟨rfl, rfl, trivial⟩ rfl ⟨rfl, rfl⟩

set_option maxRecDepth 100000 in
theorem nb255 (V398 : Value) : Tri Tryz.prog 264 #[V398] [] [row V398 66 7 ([[.int .i64 2, .int .i64 3, .int .i64 (-1), .int .i64 50, .int .i64 9, .int .i64 0, .int .i64 2], [.int .i64 3, .int .i64 1, .int .i64 (-1), .int .i64 50, .int .i64 9, .int .i64 0, .int .i64 3]].map id)] (fun v L' => v = .tuple #[.int .i64 0, .bool true] ∧ L' = [row V398 66 7 ([[.int .i64 2, .int .i64 3, .int .i64 (-1), .int .i64 50, .int .i64 9, .int .i64 0, .int .i64 2], [.int .i64 3, .int .i64 1, .int .i64 (-1), .int .i64 50, .int .i64 9, .int .i64 0, .int .i64 3]].map id)]) := by
 refine Tri.en F264 rfl K264 rfl fun w0 => ?_
 refine J.co 8 rfl ?_
 refine O.l (Lo.ca C318 (nb254 V398) [0] rfl rfl .nil) rfl ?_
 rintro _ _ ⟨_, ⟨rfl, rfl⟩, rfl⟩
 refine O.oc 5 rfl ?_
 exact J.rn [_, _] [0] rfl ⟨rfl, rfl, trivial⟩ rfl ⟨rfl, rfl⟩

set_option maxRecDepth 100000 in
theorem nb256 (g244 : Nat) (b245 : Nat) (V358 : Value) : Tri Tryz.prog 314 #[.pointer (some ⟨g244, 0, none⟩), .int .i64 2] [] [var g244 [.map (some b245), .int .i64 1, V358] 294, mi b245 (Value.int .i64) [(2, 0)]] (fun v L' => v = .tuple #[.int .i64 0, .bool true] ∧ L' = [var g244 [.map (some b245), .int .i64 1, V358] 294, mi b245 (Value.int .i64) [(2, 0)]]) := by
 refine Tri.en F314 rfl K314 rfl fun w0 => ?_
 refine J.co 10 rfl ?_
 refine O.q (Qt.lv 0 A178 rfl rfl rfl) rfl ?_
 refine O.oo 1 rfl ?_
 refine O.q (Qt.lkOk (V := .int .i64 0) (q := true) N178 N3 Y3 rfl rfl (Mc.own 1 b245 rfl rfl) rfl rfl) rfl ?_
 refine O.oc 13 rfl ?_
 exact J.rn [_, _] [0, 1] rfl ⟨rfl, rfl, trivial⟩ rfl ⟨rfl, rfl⟩

set_option maxRecDepth 100000 in
theorem nb257 (g244 : Nat) (b245 : Nat) (V358 : Value) : Tri Tryz.prog 316 #[.pointer (some ⟨g244, 0, none⟩), .int .i64 0, .agg #[.int .i64 2, .int .i64 3, .int .i64 (-1), .int .i64 50, .int .i64 9, .int .i64 0, .int .i64 2]] [] [var g244 [.map (some b245), .int .i64 1, V358] 294, row V358 66 7 ([[.int .i64 2, .int .i64 3, .int .i64 (-1), .int .i64 50, .int .i64 9, .int .i64 0, .int .i64 2]].map id), mi b245 (Value.int .i64) [(2, 0)]] (fun v L' => v = .tuple #[] ∧ L' = [var g244 [.map (some b245), .int .i64 1, V358] 294, row V358 66 7 ([[.int .i64 2, .int .i64 3, .int .i64 (-1), .int .i64 50, .int .i64 9, .int .i64 0, .int .i64 2]].map id), mi b245 (Value.int .i64) [(2, 0)]]) := by
 refine Tri.en F316 rfl K316 rfl fun w0 => ?_
 refine J.co 2 rfl ?_
 refine O.l (Lo.bx rfl rfl) rfl ?_
 rintro _ _ ⟨g422, rfl, rfl⟩
 refine O.oc 1 rfl ?_
 refine J.dm [(0, false), (1, false), (2, false), (3, false), (4, false), (5, false), (6, false), (7, false), (8, false), (9, false), (10, false), (11, false), (12, false), (13, false), (14, false), (15, true), (16, true), (17, false), (18, true)] [0, 1, 2] Tryz.mixed (by kernel_rfl) rfl ?_
 refine Mx.r 3 rfl ?_
 refine Mx.q rfl (Qt.lv 1 A52 rfl rfl rfl) rfl ?_
 refine Mx.r 5 rfl ?_
 refine Mx.q rfl (Qt.lv 1 A178 rfl rfl rfl) rfl ?_
 refine Mx.r 1 rfl ?_
 refine Mx.q rfl (Qt.lv 0 A3 rfl rfl rfl) rfl ?_
 refine Mx.q rfl (Qt.lva 0 A66 Z66 rfl rfl rfl) rfl ?_
 refine Mx.r 1 rfl ?_
 refine Mx.q rfl (Qt.ix U52 Z66 rfl (Src.row 2 rfl) (j := 0) (a := [.int .i64 2, .int .i64 3, .int .i64 (-1), .int .i64 50, .int .i64 9, .int .i64 0, .int .i64 2]) rfl rfl rfl) rfl ?_
 refine Mx.l0 rfl (Lo.storeM 2 (j := 0) (off := 0) (vs := [.int .i64 2, .int .i64 3, .int .i64 (-1), .int .i64 50, .int .i64 9, .int .i64 0, .int .i64 2]) (e := [.int .i64 2, .int .i64 3, .int .i64 (-1), .int .i64 50, .int .i64 9, .int .i64 0, .int .i64 2]) [.int .i64 2, .int .i64 3, .int .i64 (-1), .int .i64 50, .int .i64 9, .int .i64 0, .int .i64 2] rfl rfl rfl rfl (by omega) rfl rfl Z66 rfl rfl rfl rfl rfl) ?_
 rintro _ _ rfl
 refine MxK.gp [0, 1, 2] [0, 1, 2] rfl rfl ?_
 refine Mx.l rfl (Lo.mapEnt 3 N178 N3 Y3 rfl rfl rfl) rfl ?_
 rintro _ _ ⟨V423, x424, rfl, rfl⟩
 refine MxK.gp [0, 1, 2] [0, 1, 2] rfl rfl ?_
 refine Mx.r 1 rfl ?_
 refine Mx.l0 rfl (Lo.entSt (u := 0) 3 rfl rfl rfl rfl) ?_
 rintro _ _ rfl
 refine MxK.al [0, 1, 2] rfl (by kernel_rfl) ?_
 refine Mx.nil ?_
 exact J.dn [] [1, 2, 3] rfl trivial rfl ⟨rfl, rfl⟩

set_option maxRecDepth 100000 in
theorem nb258 (g244 : Nat) (b245 : Nat) (V358 : Value) : Tri Tryz.prog 352 #[.pointer (some ⟨g244, 0, none⟩), .int .i64 0, .int .i64 0] [] [var g244 [.map (some b245), .int .i64 1, V358] 294, row V358 66 7 ([[.int .i64 2, .int .i64 3, .int .i64 (-1), .int .i64 50, .int .i64 9, .int .i64 0, .int .i64 2]].map id), mi b245 (Value.int .i64) [(2, 0)]] (fun v L' => v = .tuple #[] ∧ L' = [var g244 [.map (some b245), .int .i64 1, V358] 294, row V358 66 7 ([[.int .i64 2, .int .i64 3, .int .i64 (-1), .int .i64 50, .int .i64 9, .int .i64 0, .int .i64 2]].map id), mi b245 (Value.int .i64) [(2, 0)]]) := by
 refine Tri.en F352 rfl K352 rfl fun w0 => ?_
 refine J.cc 1 rfl ?_
 refine J.drawA Tryz.mixed ?_
 refine A.edge 14 15 rfl ?_ ?_
 ·
  refine A.mx [(0, false), (1, false), (2, false), (3, false), (4, false), (5, false), (6, false), (7, false), (8, false), (9, false), (10, false), (11, false), (12, false), (13, false), (15, true), (14, true), (16, true), (17, true)] [0, 1] (by kernel_rfl) rfl ?_
  refine Mx.r 3 rfl ?_
  refine Mx.q rfl (Qt.lv 0 A52 rfl rfl rfl) rfl ?_
  refine Mx.r 1 rfl ?_
  refine Mx.q rfl (Qt.ix U52 Z66 rfl (Src.row 1 rfl) (j := 0) (a := [.int .i64 2, .int .i64 3, .int .i64 (-1), .int .i64 50, .int .i64 9, .int .i64 0, .int .i64 2]) rfl rfl rfl) rfl ?_
  refine Mx.q rfl (Qt.lea A66 Z66 (Src.row 1 rfl) (j := 0) (a := [.int .i64 2, .int .i64 3, .int .i64 (-1), .int .i64 50, .int .i64 9, .int .i64 0, .int .i64 2]) rfl 0 rfl (by omega) rfl) rfl ?_
  refine Mx.r 3 rfl ?_
  refine Mx.q rfl (Qt.lv 0 A52 rfl rfl rfl) rfl ?_
  refine Mx.r 1 rfl ?_
  refine Mx.q rfl (Qt.ix U52 Z66 rfl (Src.row 1 rfl) (j := 0) (a := [.int .i64 2, .int .i64 3, .int .i64 (-1), .int .i64 50, .int .i64 9, .int .i64 0, .int .i64 2]) rfl rfl rfl) rfl ?_
  refine Mx.q rfl (Qt.lea A66 Z66 (Src.row 1 rfl) (j := 0) (a := [.int .i64 2, .int .i64 3, .int .i64 (-1), .int .i64 50, .int .i64 9, .int .i64 0, .int .i64 2]) rfl 0 rfl (by omega) rfl) rfl ?_
  refine Mx.l rfl (Lo.al Y66 rfl) rfl ?_
  rintro _ _ ⟨g420, rfl, rfl⟩
  refine MxK.gp [1, 2] [0, 1] rfl rfl ?_
  refine Mx.l rfl (Lo.al Y66 rfl) rfl ?_
  rintro _ _ ⟨g421, rfl, rfl⟩
  refine MxK.gp [2, 3] [0, 1] rfl rfl ?_
  refine Mx.l0 rfl (Lo.st 0 Z66 rfl rfl rfl rfl rfl rfl rfl) ?_
  rintro _ _ rfl
  refine MxK.gp [2, 3] [0, 1] rfl rfl ?_
  refine Mx.l0 rfl (Lo.st 1 Z66 rfl rfl rfl rfl rfl rfl rfl) ?_
  rintro _ _ rfl
  refine MxK.al [2, 3] rfl (by kernel_rfl) ?_
  refine Mx.nil ?_
  refine J.co 4 rfl ?_
  refine O.q (Qt.lva 1 A66 Z66 rfl rfl rfl) rfl ?_
  refine O.l (Lo.ca C316 (nb257 g244 b245 V358) [2, 3, 4] rfl rfl .nil) rfl ?_
  rintro _ _ ⟨_, ⟨rfl, rfl⟩, rfl⟩
  refine O.oo 4 rfl ?_
  refine O.q (Qt.lva 3 A66 Z66 rfl rfl rfl) rfl ?_
  refine O.l (Lo.ca C316 (nb257 g244 b245 V358) [0, 1, 2] rfl rfl .nil) rfl ?_
  rintro _ _ ⟨_, ⟨rfl, rfl⟩, rfl⟩
  refine O.oc 1 rfl ?_
  exact J.dn [] [0, 1, 2] rfl trivial rfl ⟨rfl, rfl⟩
 ·
  refine A.mx [(0, false), (1, false), (2, false), (3, false), (4, false), (5, false), (6, false), (7, false), (8, false), (9, false), (10, false), (11, false), (12, false), (13, false), (14, true), (15, true), (16, true), (17, true)] [0, 1] (by kernel_rfl) rfl ?_
  refine Mx.r 3 rfl ?_
  refine Mx.q rfl (Qt.lv 0 A52 rfl rfl rfl) rfl ?_
  refine Mx.r 1 rfl ?_
  refine Mx.q rfl (Qt.ix U52 Z66 rfl (Src.row 1 rfl) (j := 0) (a := [.int .i64 2, .int .i64 3, .int .i64 (-1), .int .i64 50, .int .i64 9, .int .i64 0, .int .i64 2]) rfl rfl rfl) rfl ?_
  refine Mx.q rfl (Qt.lea A66 Z66 (Src.row 1 rfl) (j := 0) (a := [.int .i64 2, .int .i64 3, .int .i64 (-1), .int .i64 50, .int .i64 9, .int .i64 0, .int .i64 2]) rfl 0 rfl (by omega) rfl) rfl ?_
  refine Mx.r 3 rfl ?_
  refine Mx.q rfl (Qt.lv 0 A52 rfl rfl rfl) rfl ?_
  refine Mx.r 1 rfl ?_
  refine Mx.q rfl (Qt.ix U52 Z66 rfl (Src.row 1 rfl) (j := 0) (a := [.int .i64 2, .int .i64 3, .int .i64 (-1), .int .i64 50, .int .i64 9, .int .i64 0, .int .i64 2]) rfl rfl rfl) rfl ?_
  refine Mx.q rfl (Qt.lea A66 Z66 (Src.row 1 rfl) (j := 0) (a := [.int .i64 2, .int .i64 3, .int .i64 (-1), .int .i64 50, .int .i64 9, .int .i64 0, .int .i64 2]) rfl 0 rfl (by omega) rfl) rfl ?_
  refine Mx.l rfl (Lo.al Y66 rfl) rfl ?_
  rintro _ _ ⟨g425, rfl, rfl⟩
  refine MxK.gp [1, 2] [0, 1] rfl rfl ?_
  refine Mx.l rfl (Lo.al Y66 rfl) rfl ?_
  rintro _ _ ⟨g426, rfl, rfl⟩
  refine MxK.gp [2, 3] [0, 1] rfl rfl ?_
  refine Mx.l0 rfl (Lo.st 1 Z66 rfl rfl rfl rfl rfl rfl rfl) ?_
  rintro _ _ rfl
  refine MxK.gp [2, 3] [0, 1] rfl rfl ?_
  refine Mx.l0 rfl (Lo.st 0 Z66 rfl rfl rfl rfl rfl rfl rfl) ?_
  rintro _ _ rfl
  refine MxK.al [2, 3] rfl (by kernel_rfl) ?_
  refine Mx.nil ?_
  refine J.co 4 rfl ?_
  refine O.q (Qt.lva 0 A66 Z66 rfl rfl rfl) rfl ?_
  refine O.l (Lo.ca C316 (nb257 g244 b245 V358) [2, 3, 4] rfl rfl .nil) rfl ?_
  rintro _ _ ⟨_, ⟨rfl, rfl⟩, rfl⟩
  refine O.oo 4 rfl ?_
  refine O.q (Qt.lva 4 A66 Z66 rfl rfl rfl) rfl ?_
  refine O.l (Lo.ca C316 (nb257 g244 b245 V358) [0, 1, 2] rfl rfl .nil) rfl ?_
  rintro _ _ ⟨_, ⟨rfl, rfl⟩, rfl⟩
  refine O.oc 1 rfl ?_
  exact J.dn [] [0, 1, 2] rfl trivial rfl ⟨rfl, rfl⟩

set_option maxRecDepth 100000 in
theorem nb259 (g244 : Nat) (b245 : Nat) (V358 : Value) : Tri Tryz.prog 353 #[.pointer (some ⟨g244, 0, none⟩), .int .i64 2] [] [var g244 [.map (some b245), .int .i64 1, vcut V358 7 0 (0 : Int).toNat] 294, mi b245 (Value.int .i64) [(2, 0)]] (fun v L' => v = .tuple #[] ∧ L' = [var g244 [.map (some b245), .int .i64 1, vcut V358 7 0 (0 : Int).toNat] 294, mi b245 (Value.int .i64) ([] : List (Int × Int))]) := by
 refine Tri.en F353 rfl K353 rfl fun w0 => ?_
 refine J.co 4 rfl ?_
 refine O.q (Qt.lv 0 A178 rfl rfl rfl) rfl ?_
 refine O.oo 1 rfl ?_
 refine O.l0 (Lo.mapDel 1 rfl N178 N3 rfl rfl rfl) ?_
 rintro _ _ rfl
 refine O.oc 1 rfl ?_
 exact J.dn [] [0, 1] rfl trivial rfl ⟨rfl, rfl⟩

set_option maxRecDepth 100000 in
theorem nb260 (g244 : Nat) (b245 : Nat) (V358 : Value) : Tri Tryz.prog 321 #[.pointer (some ⟨g244, 0, none⟩), .int .i64 0] [] [var g244 [.map (some b245), .int .i64 1, V358] 294, row V358 66 7 ([[.int .i64 2, .int .i64 3, .int .i64 (-1), .int .i64 50, .int .i64 9, .int .i64 0, .int .i64 2]].map id), mi b245 (Value.int .i64) [(2, 0)]] (fun v L' => v = .tuple #[.agg #[.int .i64 2, .int .i64 3, .int .i64 (-1), .int .i64 50, .int .i64 9, .int .i64 0, .int .i64 2], .bool true] ∧ L' = [var g244 [.map (some b245), .int .i64 1, vcut V358 7 0 (0 : Int).toNat] 294, mi b245 (Value.int .i64) ([] : List (Int × Int)), row (vcut V358 7 0 (0 : Int).toNat) 66 7 (([] : List (List Value)).map id)]) := by
 refine Tri.en F321 rfl K321 rfl fun w0 => ?_
 refine J.co 2 rfl ?_
 refine O.l (Lo.al Y66 rfl) rfl ?_
 rintro _ _ ⟨g418, rfl, rfl⟩
 refine O.oc 3 rfl ?_
 refine J.dm [(0, false), (1, false), (2, false), (3, false), (4, false), (5, false), (6, false), (7, false), (8, false), (9, false), (10, false), (11, false), (12, false), (13, true), (14, true), (15, false)] [1, 2] Tryz.mixed (by kernel_rfl) rfl ?_
 refine Mx.r 3 rfl ?_
 refine Mx.q rfl (Qt.lv 0 A52 rfl rfl rfl) rfl ?_
 refine Mx.r 1 rfl ?_
 refine Mx.q rfl (Qt.ix U52 Z66 rfl (Src.row 1 rfl) (j := 0) (a := [.int .i64 2, .int .i64 3, .int .i64 (-1), .int .i64 50, .int .i64 9, .int .i64 0, .int .i64 2]) rfl rfl rfl) rfl ?_
 refine Mx.q rfl (Qt.lea A66 Z66 (Src.row 1 rfl) (j := 0) (a := [.int .i64 2, .int .i64 3, .int .i64 (-1), .int .i64 50, .int .i64 9, .int .i64 0, .int .i64 2]) rfl 0 rfl (by omega) rfl) rfl ?_
 refine Mx.r 3 rfl ?_
 refine Mx.q rfl (Qt.lv 0 A52 rfl rfl rfl) rfl ?_
 refine Mx.q rfl (Qt.lenM U52 rfl (Src.row 1 rfl)) rfl ?_
 refine Mx.p rfl (Pu.sub' rfl rfl (by decide)) rfl ?_
 refine Mx.l rfl (Lo.al Y66 rfl) rfl ?_
 rintro _ _ ⟨g419, rfl, rfl⟩
 refine MxK.gp [2, 3] [0, 1] rfl rfl ?_
 refine Mx.l0 rfl (Lo.st 0 Z66 rfl rfl rfl rfl rfl rfl rfl) ?_
 rintro _ _ rfl
 refine MxK.gp [2, 3] [0, 1] rfl rfl ?_
 refine Mx.r 1 rfl ?_
 refine Mx.nil ?_
 refine J.co 5 rfl ?_
 refine O.l (Lo.ca C352 (nb258 g244 b245 V358) [2, 3, 4] rfl rfl .nil) rfl ?_
 rintro _ _ ⟨_, ⟨rfl, rfl⟩, rfl⟩
 refine O.oo 7 rfl ?_
 refine O.q (Qt.lv 0 A52 rfl rfl rfl) rfl ?_
 refine O.oo 1 rfl ?_
 refine O.l (Lo.headRow 1 U52 Z66 rfl rfl rfl (by decide) (by decide)) rfl ?_
 rintro _ _ ⟨rfl, rfl⟩
 refine O.oo 2 rfl ?_
 refine O.one (Src.row 1 rfl) (fun hV427 => ?_)
 refine O.l0 (Lo.so 0 Z52 hV427 rfl rfl rfl rfl) ?_
 rintro _ _ rfl
 refine O.oc 2 rfl ?_
 refine J.drawTail 5 Tryz.mixed (by kernel_rfl) ?_
 refine S.r 4 rfl ?_
 refine S.q (Qt.lv 3 A3 rfl rfl rfl) rfl ?_
 refine S.endO ?_
 refine O.l (Lo.ca C353 (nb259 g244 b245 V358) [0, 2] rfl rfl .nil) rfl ?_
 rintro _ _ ⟨_, ⟨rfl, rfl⟩, rfl⟩
 refine O.oo 12 rfl ?_
 refine O.q (Qt.lva 3 A66 Z66 rfl rfl rfl) rfl ?_
 refine O.l0 (Lo.st 4 Z66 rfl rfl rfl rfl rfl rfl rfl) ?_
 rintro _ _ rfl
 refine O.oc 2 rfl ?_
 exact J.rn [_, _] [0, 1, 2] rfl ⟨⟨_, _, 0, 0, _, rfl, Cel.var 4 rfl, rfl, Cut.agg _ A66 Z66 rfl rfl⟩, rfl, trivial⟩ rfl ⟨rfl, rfl⟩

set_option maxRecDepth 100000 in
theorem nb261 (g244 : Nat) (b245 : Nat) (V358 : Value) : Tri Tryz.prog 265 #[.pointer (some ⟨g244, 0, none⟩), .int .i64 2] [] [var g244 [.map (some b245), .int .i64 1, V358] 294, mi b245 (Value.int .i64) [(2, 0)], row V358 66 7 ([[.int .i64 2, .int .i64 3, .int .i64 (-1), .int .i64 50, .int .i64 9, .int .i64 0, .int .i64 2]].map id)] (fun v L' => v = .tuple #[.agg #[.int .i64 2, .int .i64 3, .int .i64 (-1), .int .i64 50, .int .i64 9, .int .i64 0, .int .i64 2], .bool true] ∧ L' = [var g244 [.map (some b245), .int .i64 1, vcut V358 7 0 (0 : Int).toNat] 294, mi b245 (Value.int .i64) ([] : List (Int × Int)), row (vcut V358 7 0 (0 : Int).toNat) 66 7 (([] : List (List Value)).map id)]) := by
 refine Tri.en F265 rfl K265 rfl fun w0 => ?_
 refine J.co 2 rfl ?_
 refine O.l (Lo.al Y66 rfl) rfl ?_
 rintro _ _ ⟨g417, rfl, rfl⟩
 refine O.oo 6 rfl ?_
 refine O.p (Pu.someEq N163 rfl) rfl ?_
 refine O.oo 9 rfl ?_
 refine O.l (Lo.ca C314 (nb256 g244 b245 V358) [1, 2] rfl rfl .nil) rfl ?_
 rintro _ _ ⟨_, ⟨rfl, rfl⟩, rfl⟩
 refine O.oo 18 rfl ?_
 refine O.l (Lo.ca C321 (nb260 g244 b245 V358) [0, 3, 1] rfl rfl .nil) rfl ?_
 rintro _ _ ⟨_, ⟨rfl, rfl⟩, rfl⟩
 refine O.oo 2 rfl ?_
 refine O.l0 (Lo.st 3 Z66 rfl rfl rfl rfl rfl rfl rfl) ?_
 rintro _ _ rfl
 refine O.oc 2 rfl ?_
 exact J.rn [_, _] [0, 1, 2] rfl ⟨⟨_, _, 0, 0, _, rfl, Cel.var 3 rfl, rfl, Cut.agg _ A66 Z66 rfl rfl⟩, rfl, trivial⟩ rfl ⟨rfl, rfl⟩

set_option maxRecDepth 100000 in
theorem nb262 (g244 : Nat) (b245 : Nat) (V358 : Value) : Tri Tryz.prog 314 #[.pointer (some ⟨g244, 0, none⟩), .int .i64 3] [] [var g244 [.map (some b245), .int .i64 1, vcut V358 7 0 (0 : Int).toNat] 294, mi b245 (Value.int .i64) ([] : List (Int × Int))] (fun v L' => v = .tuple #[.int .i64 0, .bool false] ∧ L' = [var g244 [.map (some b245), .int .i64 1, vcut V358 7 0 (0 : Int).toNat] 294, mi b245 (Value.int .i64) ([] : List (Int × Int))]) := by
 refine Tri.en F314 rfl K314 rfl fun w0 => ?_
 refine J.co 10 rfl ?_
 refine O.q (Qt.lv 0 A178 rfl rfl rfl) rfl ?_
 refine O.oo 1 rfl ?_
 refine O.q (Qt.lkOk (V := .int .i64 0) (q := false) N178 N3 Y3 rfl rfl (Mc.own 1 b245 rfl rfl) rfl rfl) rfl ?_
 refine O.oc 13 rfl ?_
 exact J.rn [_, _] [0, 1] rfl ⟨rfl, rfl, trivial⟩ rfl ⟨rfl, rfl⟩

set_option maxRecDepth 100000 in
theorem nb263 (g244 : Nat) (b245 : Nat) (V358 : Value) : Tri Tryz.prog 259 #[.pointer (some ⟨g244, 0, none⟩), .int .i64 3] [] [var g244 [.map (some b245), .int .i64 1, vcut V358 7 0 (0 : Int).toNat] 294, mi b245 (Value.int .i64) ([] : List (Int × Int))] (fun v L' => v = .tuple #[.agg #[.int .i64 0, .int .i64 0, .int .i64 0, .int .i64 0, .int .i64 0, .int .i64 0, .int .i64 0], .bool false] ∧ L' = [var g244 [.map (some b245), .int .i64 1, vcut V358 7 0 (0 : Int).toNat] 294, mi b245 (Value.int .i64) ([] : List (Int × Int))]) := by
 refine Tri.en F259 rfl K259 rfl fun w0 => ?_
 refine J.co 2 rfl ?_
 refine O.l (Lo.al Y66 rfl) rfl ?_
 rintro _ _ ⟨g429, rfl, rfl⟩
 refine O.oo 6 rfl ?_
 refine O.p (Pu.someEq N163 rfl) rfl ?_
 refine O.oo 9 rfl ?_
 refine O.l (Lo.ca C314 (nb262 g244 b245 V358) [1, 2] rfl rfl .nil) rfl ?_
 rintro _ _ ⟨_, ⟨rfl, rfl⟩, rfl⟩
 refine O.oo 15 rfl ?_
 refine O.p (Pu.build [] [.int .i64 0, .int .i64 0, .int .i64 0, .int .i64 0, .int .i64 0, .int .i64 0, .int .i64 0] #[(0, 1), (1, 1), (2, 1), (3, 1), (4, 1), (5, 1), (6, 1)] U66 Y66 (places66 N66) rfl (by kernel_rfl)) rfl ?_
 refine O.l0 (Lo.st 2 Z66 rfl rfl rfl rfl rfl rfl rfl) ?_
 rintro _ _ rfl
 refine O.oc 2 rfl ?_
 exact J.rn [_, _] [0, 1] rfl ⟨⟨_, _, 0, 0, _, rfl, Cel.var 2 rfl, rfl, Cut.agg _ A66 Z66 rfl rfl⟩, rfl, trivial⟩ rfl ⟨rfl, rfl⟩

set_option maxRecDepth 100000 in
theorem nb264 (g244 : Nat) (b245 : Nat) (V432 : Value) : Tri Tryz.prog 316 #[.pointer (some ⟨g244, 0, none⟩), .int .i64 0, .agg #[.int .i64 3, .int .i64 1, .int .i64 (-1), .int .i64 50, .int .i64 9, .int .i64 0, .int .i64 3]] [] [var g244 [.map (some b245), .int .i64 1, V432] 294, row V432 66 7 ([[.int .i64 3, .int .i64 1, .int .i64 (-1), .int .i64 50, .int .i64 9, .int .i64 0, .int .i64 3]].map id), mi b245 (Value.int .i64) ([] : List (Int × Int))] (fun v L' => v = .tuple #[] ∧ L' = [var g244 [.map (some b245), .int .i64 1, V432] 294, row V432 66 7 ([[.int .i64 3, .int .i64 1, .int .i64 (-1), .int .i64 50, .int .i64 9, .int .i64 0, .int .i64 3]].map id), mi b245 (Value.int .i64) [(3, 0)]]) := by
 refine Tri.en F316 rfl K316 rfl fun w0 => ?_
 refine J.co 2 rfl ?_
 refine O.l (Lo.bx rfl rfl) rfl ?_
 rintro _ _ ⟨g434, rfl, rfl⟩
 refine O.oc 1 rfl ?_
 refine J.dm [(0, false), (1, false), (2, false), (3, false), (4, false), (5, false), (6, false), (7, false), (8, false), (9, false), (10, false), (11, false), (12, false), (13, false), (14, false), (15, true), (16, true), (17, false), (18, true)] [0, 1, 2] Tryz.mixed (by kernel_rfl) rfl ?_
 refine Mx.r 3 rfl ?_
 refine Mx.q rfl (Qt.lv 1 A52 rfl rfl rfl) rfl ?_
 refine Mx.r 5 rfl ?_
 refine Mx.q rfl (Qt.lv 1 A178 rfl rfl rfl) rfl ?_
 refine Mx.r 1 rfl ?_
 refine Mx.q rfl (Qt.lv 0 A3 rfl rfl rfl) rfl ?_
 refine Mx.q rfl (Qt.lva 0 A66 Z66 rfl rfl rfl) rfl ?_
 refine Mx.r 1 rfl ?_
 refine Mx.q rfl (Qt.ix U52 Z66 rfl (Src.row 2 rfl) (j := 0) (a := [.int .i64 3, .int .i64 1, .int .i64 (-1), .int .i64 50, .int .i64 9, .int .i64 0, .int .i64 3]) rfl rfl rfl) rfl ?_
 refine Mx.l0 rfl (Lo.storeM 2 (j := 0) (off := 0) (vs := [.int .i64 3, .int .i64 1, .int .i64 (-1), .int .i64 50, .int .i64 9, .int .i64 0, .int .i64 3]) (e := [.int .i64 3, .int .i64 1, .int .i64 (-1), .int .i64 50, .int .i64 9, .int .i64 0, .int .i64 3]) [.int .i64 3, .int .i64 1, .int .i64 (-1), .int .i64 50, .int .i64 9, .int .i64 0, .int .i64 3] rfl rfl rfl rfl (by omega) rfl rfl Z66 rfl rfl rfl rfl rfl) ?_
 rintro _ _ rfl
 refine MxK.gp [0, 1, 2] [0, 1, 2] rfl rfl ?_
 refine Mx.l rfl (Lo.mapEnt 3 N178 N3 Y3 rfl rfl rfl) rfl ?_
 rintro _ _ ⟨V435, x436, rfl, rfl⟩
 refine MxK.gp [0, 1, 2] [0, 1, 2] rfl rfl ?_
 refine Mx.r 1 rfl ?_
 refine Mx.l0 rfl (Lo.entSt (u := 0) 3 rfl rfl rfl rfl) ?_
 rintro _ _ rfl
 refine MxK.al [0, 1, 2] rfl (by kernel_rfl) ?_
 refine Mx.nil ?_
 exact J.dn [] [1, 2, 3] rfl trivial rfl ⟨rfl, rfl⟩

set_option maxRecDepth 100000 in
theorem nb265 (g244 : Nat) (b245 : Nat) (V358 : Value) : Tri Tryz.prog 263 #[.pointer (some ⟨g244, 0, none⟩), .agg #[.int .i64 3, .int .i64 1, .int .i64 (-1), .int .i64 50, .int .i64 9, .int .i64 0, .int .i64 3]] [] [var g244 [.map (some b245), .int .i64 1, vcut V358 7 0 (0 : Int).toNat] 294, mi b245 (Value.int .i64) ([] : List (Int × Int)), row (vcut V358 7 0 (0 : Int).toNat) 66 7 (([] : List (List Value)).map id)] (fun v L' => ∃ (V432 : Value), v = .int .i64 0 ∧ L' = [var g244 [.map (some b245), .int .i64 1, V432] 294, mi b245 (Value.int .i64) [(3, 0)], row V432 66 7 ([[.int .i64 3, .int .i64 1, .int .i64 (-1), .int .i64 50, .int .i64 9, .int .i64 0, .int .i64 3]].map id)]) := by
 refine Tri.en F263 rfl K263 rfl fun w0 => ?_
 refine J.co 2 rfl ?_
 refine O.l (Lo.bx rfl rfl) rfl ?_
 rintro _ _ ⟨g428, rfl, rfl⟩
 refine O.oo 7 rfl ?_
 refine O.q (Qt.lv 0 A3 rfl rfl rfl) rfl ?_
 refine O.l (Lo.ca C259 (nb263 g244 b245 V358) [1, 2] rfl rfl .nil) rfl ?_
 rintro _ _ ⟨_, ⟨rfl, rfl⟩, rfl⟩
 refine O.oo 3 rfl ?_
 refine O.l (Lo.al Y66 rfl) rfl ?_
 rintro _ _ ⟨g430, rfl, rfl⟩
 refine O.l0 (Lo.st 0 Z66 rfl rfl rfl rfl rfl rfl rfl) ?_
 rintro _ _ rfl
 refine O.oc 10 rfl ?_
 refine J.drawStill Tryz.mixed (by kernel_rfl) ?_
 refine S.r 1 rfl ?_
 refine S.p (Pu.someEq N163 rfl) rfl ?_
 refine S.r 4 rfl ?_
 refine S.gz (Qt.lv 1 A52 rfl rfl rfl) rfl rfl ?_
 refine S.gz (Qt.lenM U52 rfl (Src.row 4 rfl)) rfl rfl ?_
 refine S.r 3 rfl ?_
 refine S.gz (Qt.lv 1 A3 rfl rfl rfl) rfl rfl ?_
 refine S.r 2 rfl ?_
 refine S.endJ ?_
 refine J.cc 3 rfl ?_
 refine J.dm [(0, false), (1, false), (2, false), (3, false), (4, false), (5, false), (6, true), (7, true), (8, false), (9, false), (10, true)] [1, 3] Tryz.mixed (by kernel_rfl) rfl ?_
 refine Mx.r 4 rfl ?_
 refine Mx.q rfl (Qt.lv 0 A52 rfl rfl rfl) rfl ?_
 refine Mx.q rfl (Qt.lva 1 A66 Z66 rfl rfl rfl) rfl ?_
 refine Mx.l rfl (Lo.bm id [[.int .i64 3, .int .i64 1, .int .i64 (-1), .int .i64 50, .int .i64 9, .int .i64 0, .int .i64 3]] U52 Z66 Y66 rfl rfl rfl (by kernel_rfl) rfl rfl) rfl ?_
 rintro V431 _ rfl
 refine MxK.gp [2, 4] [0, 1] rfl rfl ?_
 refine Mx.l rfl (Lo.am 5 N52 info66 rfl rfl rfl rfl rfl (Src.row 0 rfl) (id_one rfl) (Nat.le_of_ble_eq_true rfl) (Nat.le_of_ble_eq_true rfl)) rfl ?_
 rintro V432 _ rfl
 refine MxK.al [2, 4] rfl (by kernel_rfl) ?_
 refine Mx.r 2 rfl ?_
 refine Mx.one rfl (fun _ h => by cases h <;> rfl) (Src.row 5 rfl) (fun hV433 => ?_)
 refine Mx.l0 rfl (Lo.so 2 Z52 hV433 rfl rfl rfl rfl) ?_
 rintro _ _ rfl
 refine MxK.al [2, 4] rfl (by kernel_rfl) ?_
 refine Mx.nil ?_
 refine J.cc 1 rfl ?_
 refine J.drawTail 8 Tryz.mixed (by kernel_rfl) ?_
 refine S.r 4 rfl ?_
 refine S.q (Qt.lv 2 A52 rfl rfl rfl) rfl ?_
 refine S.q (Qt.lenM U52 rfl (Src.row 5 rfl)) rfl ?_
 refine S.p (Pu.sub' rfl rfl (by decide)) rfl ?_
 refine S.q (Qt.lva 4 A66 Z66 rfl rfl rfl) rfl ?_
 refine S.endO ?_
 refine O.l (Lo.ca C316 (nb264 g244 b245 V432) [2, 5, 3] rfl rfl .nil) rfl ?_
 rintro _ _ ⟨_, ⟨rfl, rfl⟩, rfl⟩
 refine O.oo 7 rfl ?_
 refine O.q (Qt.lv 0 A52 rfl rfl rfl) rfl ?_
 refine O.q (Qt.lenM U52 rfl (Src.row 1 rfl)) rfl ?_
 refine O.p (Pu.sub' rfl rfl (by decide)) rfl ?_
 refine O.l (Lo.ca C317 (nb142 g244) [] rfl rfl .nil) rfl ?_
 rintro _ _ ⟨_, ⟨rfl, rfl⟩, rfl⟩
 refine O.oc 5 rfl ?_
 exact J.r1 [0, 2, 1] rfl rfl rfl ⟨V432, rfl, rfl⟩

set_option maxRecDepth 100000 in
theorem nb266 (g243 : Nat) (g244 : Nat) (b245 : Nat) (V358 : Value) : Tri Tryz.prog 182 #[.pointer (some ⟨g243, 0, none⟩), .agg #[.int .i64 3, .int .i64 1, .int .i64 (-1), .int .i64 50, .int .i64 9, .int .i64 0, .int .i64 3]] [] [var g243 [.pointer (some ⟨g244, 0, none⟩), .int .i64 1] 206, var g244 [.map (some b245), .int .i64 1, V358] 294, mi b245 (Value.int .i64) [(2, 0)], row V358 66 7 ([[.int .i64 2, .int .i64 3, .int .i64 (-1), .int .i64 50, .int .i64 9, .int .i64 0, .int .i64 2]].map id)] (fun v L' => ∃ (V440 : Value), v = .tuple #[.agg #[.int .i64 2, .int .i64 3, .int .i64 (-1), .int .i64 50, .int .i64 9, .int .i64 0, .int .i64 2], .bool true, .int .i64 0] ∧ L' = [var g243 [.pointer (some ⟨g244, 0, none⟩), .int .i64 1] 206, var g244 [.map (some b245), .int .i64 1, V440] 294, mi b245 (Value.int .i64) [(3, 0)], row V440 66 7 ([[.int .i64 3, .int .i64 1, .int .i64 (-1), .int .i64 50, .int .i64 9, .int .i64 0, .int .i64 3]].map id)]) := by
 refine Tri.en F182 rfl K182 rfl fun w0 => ?_
 refine J.co 2 rfl ?_
 refine O.l (Lo.bx rfl rfl) rfl ?_
 rintro _ _ ⟨g391, rfl, rfl⟩
 refine O.l (Lo.al Y66 rfl) rfl ?_
 rintro _ _ ⟨g392, rfl, rfl⟩
 refine O.oo 6 rfl ?_
 refine O.l (Lo.ca C114 (nb115 g243 g244) [2] rfl rfl .nil) rfl ?_
 rintro _ _ ⟨_, ⟨rfl, rfl⟩, rfl⟩
 refine O.oo 6 rfl ?_
 refine O.q (Qt.lva 2 A66 Z66 rfl rfl rfl) rfl ?_
 refine O.l (Lo.ca C263 (nb228 g244 b245 V358) [3, 4, 5] rfl rfl .nil) rfl ?_
 rintro _ _ ⟨_, ⟨rfl, rfl⟩, rfl⟩
 refine O.oc 17 rfl ?_
 refine J.drawA Tryz.mixed ?_
 refine A.edge 1 3 rfl ?_ ?_
 ·
  refine A.mx [(0, false), (2, false), (3, true), (1, true), (4, true), (5, false)] [5] (by kernel_rfl) rfl ?_
  refine Mx.r 1 rfl ?_
  refine Mx.q rfl (Qt.lva 0 A66 Z66 rfl rfl rfl) rfl ?_
  refine Mx.l rfl (Lo.bm id [[.int .i64 3, .int .i64 1, .int .i64 (-1), .int .i64 50, .int .i64 9, .int .i64 0, .int .i64 3]] U52 Z66 Y66 rfl rfl rfl (by kernel_rfl) rfl rfl) rfl ?_
  rintro V395 _ rfl
  refine MxK.al [6] rfl (by kernel_rfl) ?_
  refine Mx.l rfl (Lo.ca C115 (nb234 g244 b245 V358) [1, 3] rfl rfl .nil) rfl ?_
  rintro V397 _ ⟨_, ⟨_, rfl, rfl⟩, rfl⟩
  refine MxK.al [7] rfl (by kernel_rfl) ?_
  refine Mx.l rfl (Lo.am 2 N52 info66 rfl rfl rfl rfl rfl (Src.row 3 rfl) (id_one rfl) (Nat.le_of_ble_eq_true rfl) (Nat.le_of_ble_eq_true rfl)) rfl ?_
  rintro V398 _ rfl
  refine MxK.al [7] rfl (by kernel_rfl) ?_
  refine Mx.r 1 rfl ?_
  refine Mx.nil ?_
  refine J.co 3 rfl ?_
  refine O.l (Lo.ca C264 (nb255 V398) [2] rfl rfl .nil) rfl ?_
  rintro _ _ ⟨_, ⟨rfl, rfl⟩, rfl⟩
  refine O.oo 11 rfl ?_
  refine O.q (Qt.lenM U52 rfl (Src.row 0 rfl)) rfl ?_
  refine O.p (Pu.sub' rfl rfl (by decide)) rfl ?_
  refine O.oo 9 rfl ?_
  refine O.q (Qt.ix U52 Z66 rfl (Src.row 0 rfl) (j := 0) (a := [.int .i64 2, .int .i64 3, .int .i64 (-1), .int .i64 50, .int .i64 9, .int .i64 0, .int .i64 2]) rfl rfl rfl) rfl ?_
  refine O.oo 1 rfl ?_
  refine O.q (Qt.le A3 (Src.row 0 rfl) (j := 0) (a := [.int .i64 2, .int .i64 3, .int .i64 (-1), .int .i64 50, .int .i64 9, .int .i64 0, .int .i64 2]) rfl 0 rfl (by omega) rfl) rfl ?_
  refine O.l (Lo.ca C265 (nb261 g244 b245 V358) [1, 4, 2] rfl rfl .nil) rfl ?_
  rintro _ _ ⟨_, ⟨rfl, rfl⟩, rfl⟩
  refine O.oo 4 rfl ?_
  refine O.q (Qt.lva 7 A66 Z66 rfl rfl rfl) rfl ?_
  refine O.l (Lo.ca C263 (nb265 g244 b245 V358) [0, 1, 2] rfl rfl .nil) rfl ?_
  rintro _ _ ⟨_, ⟨V432, rfl, rfl⟩, rfl⟩
  refine O.oo 5 rfl ?_
  refine O.q (Qt.ix U52 Z66 rfl (Src.row 3 rfl) (j := 0) (a := [.int .i64 2, .int .i64 3, .int .i64 (-1), .int .i64 50, .int .i64 9, .int .i64 0, .int .i64 2]) rfl rfl rfl) rfl ?_
  refine O.q (Qt.lea A66 Z66 (Src.row 3 rfl) (j := 0) (a := [.int .i64 2, .int .i64 3, .int .i64 (-1), .int .i64 50, .int .i64 9, .int .i64 0, .int .i64 2]) rfl 0 rfl (by omega) rfl) rfl ?_
  refine O.l0 (Lo.st 6 Z66 rfl rfl rfl rfl rfl rfl rfl) ?_
  rintro _ _ rfl
  refine O.oc 3 rfl ?_
  exact J.rn [_, _, _] [5, 0, 1, 2] rfl ⟨⟨_, _, 0, 0, _, rfl, Cel.var 6 rfl, rfl, Cut.agg _ A66 Z66 rfl rfl⟩, rfl, rfl, trivial⟩ rfl ⟨V432, rfl, rfl⟩
 ·
  refine A.mx [(0, false), (2, false), (1, true), (3, true), (4, true), (5, false)] [5] (by kernel_rfl) rfl ?_
  refine Mx.r 1 rfl ?_
  refine Mx.q rfl (Qt.lva 0 A66 Z66 rfl rfl rfl) rfl ?_
  refine Mx.l rfl (Lo.ca C115 (nb234 g244 b245 V358) [0, 2] rfl rfl .nil) rfl ?_
  rintro V437 _ ⟨_, ⟨_, rfl, rfl⟩, rfl⟩
  refine MxK.gp [6] [0] rfl rfl ?_
  refine Mx.l rfl (Lo.bm id [[.int .i64 3, .int .i64 1, .int .i64 (-1), .int .i64 50, .int .i64 9, .int .i64 0, .int .i64 3]] U52 Z66 Y66 rfl rfl rfl (by kernel_rfl) rfl rfl) rfl ?_
  rintro V438 _ rfl
  refine MxK.al [7] rfl (by kernel_rfl) ?_
  refine Mx.l rfl (Lo.am 3 N52 info66 rfl rfl rfl rfl rfl (Src.row 0 rfl) (id_one rfl) (Nat.le_of_ble_eq_true rfl) (Nat.le_of_ble_eq_true rfl)) rfl ?_
  rintro V439 _ rfl
  refine MxK.al [7] rfl (by kernel_rfl) ?_
  refine Mx.r 1 rfl ?_
  refine Mx.nil ?_
  refine J.co 3 rfl ?_
  refine O.l (Lo.ca C264 (nb255 V439) [3] rfl rfl .nil) rfl ?_
  rintro _ _ ⟨_, ⟨rfl, rfl⟩, rfl⟩
  refine O.oo 11 rfl ?_
  refine O.q (Qt.lenM U52 rfl (Src.row 0 rfl)) rfl ?_
  refine O.p (Pu.sub' rfl rfl (by decide)) rfl ?_
  refine O.oo 9 rfl ?_
  refine O.q (Qt.ix U52 Z66 rfl (Src.row 0 rfl) (j := 0) (a := [.int .i64 2, .int .i64 3, .int .i64 (-1), .int .i64 50, .int .i64 9, .int .i64 0, .int .i64 2]) rfl rfl rfl) rfl ?_
  refine O.oo 1 rfl ?_
  refine O.q (Qt.le A3 (Src.row 0 rfl) (j := 0) (a := [.int .i64 2, .int .i64 3, .int .i64 (-1), .int .i64 50, .int .i64 9, .int .i64 0, .int .i64 2]) rfl 0 rfl (by omega) rfl) rfl ?_
  refine O.l (Lo.ca C265 (nb261 g244 b245 V358) [2, 4, 3] rfl rfl .nil) rfl ?_
  rintro _ _ ⟨_, ⟨rfl, rfl⟩, rfl⟩
  refine O.oo 4 rfl ?_
  refine O.q (Qt.lva 7 A66 Z66 rfl rfl rfl) rfl ?_
  refine O.l (Lo.ca C263 (nb265 g244 b245 V358) [0, 1, 2] rfl rfl .nil) rfl ?_
  rintro _ _ ⟨_, ⟨V440, rfl, rfl⟩, rfl⟩
  refine O.oo 5 rfl ?_
  refine O.q (Qt.ix U52 Z66 rfl (Src.row 3 rfl) (j := 0) (a := [.int .i64 2, .int .i64 3, .int .i64 (-1), .int .i64 50, .int .i64 9, .int .i64 0, .int .i64 2]) rfl rfl rfl) rfl ?_
  refine O.q (Qt.lea A66 Z66 (Src.row 3 rfl) (j := 0) (a := [.int .i64 2, .int .i64 3, .int .i64 (-1), .int .i64 50, .int .i64 9, .int .i64 0, .int .i64 2]) rfl 0 rfl (by omega) rfl) rfl ?_
  refine O.l0 (Lo.st 6 Z66 rfl rfl rfl rfl rfl rfl rfl) ?_
  rintro _ _ rfl
  refine O.oc 3 rfl ?_
  exact J.rn [_, _, _] [5, 0, 1, 2] rfl ⟨⟨_, _, 0, 0, _, rfl, Cel.var 6 rfl, rfl, Cut.agg _ A66 Z66 rfl rfl⟩, rfl, rfl, trivial⟩ rfl ⟨V440, rfl, rfl⟩

set_option maxRecDepth 100000 in
theorem nb267 (g368 : Nat) (g228 : Nat) (V385 : Value) (g235 : Nat) (V230 : Value) (V233 : Value) (g240 : Nat) (g243 : Nat) (g246 : Nat) (b224 : Nat) (g225 : Nat) (g247 : Nat) : Tri Tryz.prog 80 #[.pointer (some ⟨g368, 0, none⟩), .int .i64 4, .int .i64 2, .int .i64 5, .int .i64 3, .int .i64 0] [] [var g368 [.pointer (some ⟨g228, 0, none⟩), V385, Value.slice none 0 0] 261, var g228 [.pointer (some ⟨g235, 0, none⟩), .int .i64 2, .int .i64 4, .int .i64 1000, .int .u64 1, V230, .int .i64 0, .int .i64 1, .int .i64 1, .int .i64 10, .int .i64 1, .int .i64 64, .int .i64 20, .int .i64 1, .int .i64 4, .int .i64 10, .int .i64 5, .int .i64 1, .int .i64 3, .int .i64 2, V233, .int .i64 0, .int .i64 0, .int .i64 3, .int .i64 0, .pointer (some ⟨g240, 0, none⟩), .pointer (some ⟨g243, 0, none⟩), .pointer (some ⟨g246, 0, none⟩), .map (some b224), .pointer (some ⟨g225, 0, none⟩), .pointer (some ⟨g247, 0, none⟩)] 90, row V385 51 7 ([[.int .i64 1, .int .i64 0, .int .i64 0, .int .i64 3, .int .i64 0, .int .i64 1, .int .i64 8]].map id)] (fun v L' => ∃ (V443 : Value), v = .tuple #[] ∧ L' = [var g368 [.pointer (some ⟨g228, 0, none⟩), V443, Value.slice none 0 0] 261, var g228 [.pointer (some ⟨g235, 0, none⟩), .int .i64 2, .int .i64 4, .int .i64 1000, .int .u64 1, V230, .int .i64 0, .int .i64 1, .int .i64 1, .int .i64 10, .int .i64 1, .int .i64 64, .int .i64 20, .int .i64 1, .int .i64 4, .int .i64 10, .int .i64 5, .int .i64 1, .int .i64 3, .int .i64 2, V233, .int .i64 0, .int .i64 0, .int .i64 3, .int .i64 0, .pointer (some ⟨g240, 0, none⟩), .pointer (some ⟨g243, 0, none⟩), .pointer (some ⟨g246, 0, none⟩), .map (some b224), .pointer (some ⟨g225, 0, none⟩), .pointer (some ⟨g247, 0, none⟩)] 90, row V443 51 7 ([[.int .i64 1, .int .i64 0, .int .i64 0, .int .i64 3, .int .i64 0, .int .i64 1, .int .i64 8], [.int .i64 4, .int .i64 0, .int .i64 0, .int .i64 2, .int .i64 5, .int .i64 3, .int .i64 0]].map id)]) := by
 refine Tri.en F80 rfl K80 rfl fun w0 => ?_
 refine J.dm [(0, false), (1, false), (2, false), (3, false), (4, false), (5, false), (6, false), (7, false), (8, false), (9, false), (10, false), (11, false), (12, false), (13, false), (14, false), (15, false), (16, false), (17, false), (18, false), (19, false), (20, false), (21, false), (22, false), (23, false), (24, false), (25, false), (26, true), (27, true), (28, false), (29, false), (30, false), (31, true)] [0, 1] Tryz.mixed (by kernel_rfl) rfl ?_
 refine Mx.r 5 rfl ?_
 refine Mx.q rfl (Qt.lv 0 A33 rfl rfl rfl) rfl ?_
 refine Mx.r 4 rfl ?_
 refine Mx.q rfl (Qt.lv 0 A29 rfl rfl rfl) rfl ?_
 refine Mx.r 2 rfl ?_
 refine Mx.q rfl (Qt.lv 1 A3 rfl rfl rfl) rfl ?_
 refine Mx.r 3 rfl ?_
 refine Mx.q rfl (Qt.lv 0 A29 rfl rfl rfl) rfl ?_
 refine Mx.r 2 rfl ?_
 refine Mx.q rfl (Qt.lv 1 A3 rfl rfl rfl) rfl ?_
 refine Mx.r 4 rfl ?_
 refine Mx.p rfl (Pu.build [(0, .int .i64 4), (1, .int .i64 0), (2, .int .i64 0), (3, .int .i64 2), (4, .int .i64 5), (5, .int .i64 3), (6, .int .i64 0)] [.int .i64 4, .int .i64 0, .int .i64 0, .int .i64 2, .int .i64 5, .int .i64 3, .int .i64 0] #[(0, 1), (1, 1), (2, 1), (3, 1), (4, 1), (5, 1), (6, 1)] U51 Y51 (places51 N51) rfl (by kernel_rfl)) rfl ?_
 refine Mx.l rfl (Lo.bm id [[.int .i64 4, .int .i64 0, .int .i64 0, .int .i64 2, .int .i64 5, .int .i64 3, .int .i64 0]] U33 Z51 Y51 rfl rfl rfl (by kernel_rfl) rfl rfl) rfl ?_
 rintro V442 _ rfl
 refine MxK.gp [1, 2] [0, 1] rfl rfl ?_
 refine Mx.l rfl (Lo.am 3 N33 info51 rfl rfl rfl rfl rfl (Src.row 0 rfl) (id_one rfl) (Nat.le_of_ble_eq_true rfl) (Nat.le_of_ble_eq_true rfl)) rfl ?_
 rintro V443 _ rfl
 refine MxK.gp [1, 2] [0, 1] rfl rfl ?_
 refine Mx.r 3 rfl ?_
 refine Mx.one rfl (fun _ h => by cases h <;> rfl) (Src.row 3 rfl) (fun hV444 => ?_)
 refine Mx.l0 rfl (Lo.so 1 Z33 hV444 rfl rfl rfl rfl) ?_
 rintro _ _ rfl
 refine MxK.al [1, 2] rfl (by kernel_rfl) ?_
 refine Mx.nil ?_
 exact J.dn [] [1, 2, 3] rfl trivial rfl ⟨V443, rfl, rfl⟩

set_option maxRecDepth 100000 in
theorem nb268 (g228 : Nat) (g235 : Nat) (V230 : Value) (V233 : Value) (g240 : Nat) (g243 : Nat) (g246 : Nat) (b224 : Nat) (g225 : Nat) (g247 : Nat) : Tri Tryz.prog 42 #[.pointer (some ⟨g228, 0, none⟩)] [] [var g228 [.pointer (some ⟨g235, 0, none⟩), .int .i64 2, .int .i64 4, .int .i64 1000, .int .u64 1, V230, .int .i64 0, .int .i64 1, .int .i64 1, .int .i64 10, .int .i64 1, .int .i64 64, .int .i64 20, .int .i64 1, .int .i64 4, .int .i64 10, .int .i64 5, .int .i64 1, .int .i64 3, .int .i64 2, V233, .int .i64 0, .int .i64 0, .int .i64 3, .int .i64 0, .pointer (some ⟨g240, 0, none⟩), .pointer (some ⟨g243, 0, none⟩), .pointer (some ⟨g246, 0, none⟩), .map (some b224), .pointer (some ⟨g225, 0, none⟩), .pointer (some ⟨g247, 0, none⟩)] 90] (fun v L' => v = .pointer (some ⟨g235, 0, none⟩) ∧ L' = [var g228 [.pointer (some ⟨g235, 0, none⟩), .int .i64 2, .int .i64 4, .int .i64 1000, .int .u64 1, V230, .int .i64 0, .int .i64 1, .int .i64 1, .int .i64 10, .int .i64 1, .int .i64 64, .int .i64 20, .int .i64 1, .int .i64 4, .int .i64 10, .int .i64 5, .int .i64 1, .int .i64 3, .int .i64 2, V233, .int .i64 0, .int .i64 0, .int .i64 3, .int .i64 0, .pointer (some ⟨g240, 0, none⟩), .pointer (some ⟨g243, 0, none⟩), .pointer (some ⟨g246, 0, none⟩), .map (some b224), .pointer (some ⟨g225, 0, none⟩), .pointer (some ⟨g247, 0, none⟩)] 90]) := by
 refine Tri.en F42 rfl K42 rfl fun w0 => ?_
 refine J.co 8 rfl ?_
 refine O.p (Pu.someEq N29 rfl) rfl ?_
 refine O.oo 8 rfl ?_
 refine O.q (Qt.lv 0 A82 rfl rfl rfl) rfl ?_
 refine O.oc 2 rfl ?_
 exact J.r1 [0] rfl rfl rfl ⟨rfl, rfl⟩

set_option maxRecDepth 100000 in
theorem nb269 (g228 : Nat) (g235 : Nat) (V230 : Value) (V233 : Value) (g240 : Nat) (g243 : Nat) (g246 : Nat) (b224 : Nat) (g225 : Nat) (g247 : Nat) (g236 : Nat) (g237 : Nat) (g238 : Nat) (g239 : Nat) : Tri Tryz.prog 18 #[.pointer (some ⟨g228, 0, none⟩)] [] [var g228 [.pointer (some ⟨g235, 0, none⟩), .int .i64 2, .int .i64 4, .int .i64 1000, .int .u64 1, V230, .int .i64 0, .int .i64 1, .int .i64 1, .int .i64 10, .int .i64 1, .int .i64 64, .int .i64 20, .int .i64 1, .int .i64 4, .int .i64 10, .int .i64 5, .int .i64 1, .int .i64 3, .int .i64 2, V233, .int .i64 0, .int .i64 0, .int .i64 3, .int .i64 0, .pointer (some ⟨g240, 0, none⟩), .pointer (some ⟨g243, 0, none⟩), .pointer (some ⟨g246, 0, none⟩), .map (some b224), .pointer (some ⟨g225, 0, none⟩), .pointer (some ⟨g247, 0, none⟩)] 90, var g235 [.pointer (some ⟨g236, 0, none⟩), .pointer (some ⟨g237, 0, none⟩), .int .i64 8, .int .i64 1, .int .i64 1, .int .i64 4, .int .i64 10, .int .i64 5, .int .i64 1, .int .i64 3, .int .i64 2, .pointer (some ⟨g238, 0, none⟩), .pointer (some ⟨g239, 0, none⟩), .int .i64 8, .int .i64 1] 172] (fun v L' => v = .int .i64 8 ∧ L' = [var g228 [.pointer (some ⟨g235, 0, none⟩), .int .i64 2, .int .i64 4, .int .i64 1000, .int .u64 1, V230, .int .i64 0, .int .i64 1, .int .i64 1, .int .i64 10, .int .i64 1, .int .i64 64, .int .i64 20, .int .i64 1, .int .i64 4, .int .i64 10, .int .i64 5, .int .i64 1, .int .i64 3, .int .i64 2, V233, .int .i64 0, .int .i64 0, .int .i64 3, .int .i64 0, .pointer (some ⟨g240, 0, none⟩), .pointer (some ⟨g243, 0, none⟩), .pointer (some ⟨g246, 0, none⟩), .map (some b224), .pointer (some ⟨g225, 0, none⟩), .pointer (some ⟨g247, 0, none⟩)] 90, var g235 [.pointer (some ⟨g236, 0, none⟩), .pointer (some ⟨g237, 0, none⟩), .int .i64 8, .int .i64 1, .int .i64 1, .int .i64 4, .int .i64 10, .int .i64 5, .int .i64 1, .int .i64 3, .int .i64 2, .pointer (some ⟨g238, 0, none⟩), .pointer (some ⟨g239, 0, none⟩), .int .i64 8, .int .i64 1] 172]) := by
 refine Tri.en F18 rfl K18 rfl fun w0 => ?_
 refine J.co 7 rfl ?_
 refine O.l (Lo.ca C42 (nb268 g228 g235 V230 V233 g240 g243 g246 b224 g225 g247) [0] rfl rfl .nil) rfl ?_
 rintro _ _ ⟨_, ⟨rfl, rfl⟩, rfl⟩
 refine O.l (Lo.ca C44 (nb133 g235 g236 g237 g238 g239) [1] rfl rfl .nil) rfl ?_
 rintro _ _ ⟨_, ⟨rfl, rfl⟩, rfl⟩
 refine O.oc 2 rfl ?_
 exact J.r1 [1, 0] rfl rfl rfl ⟨rfl, rfl⟩

set_option maxRecDepth 100000 in
theorem nb270 (g235 : Nat) (g236 : Nat) (g237 : Nat) (g238 : Nat) (g239 : Nat) : Tri Tryz.prog 43 #[.pointer (some ⟨g235, 0, none⟩)] [] [var g235 [.pointer (some ⟨g236, 0, none⟩), .pointer (some ⟨g237, 0, none⟩), .int .i64 8, .int .i64 1, .int .i64 1, .int .i64 4, .int .i64 10, .int .i64 5, .int .i64 1, .int .i64 3, .int .i64 2, .pointer (some ⟨g238, 0, none⟩), .pointer (some ⟨g239, 0, none⟩), .int .i64 8, .int .i64 1] 172] (fun v L' => v = .int .i64 1 ∧ L' = [var g235 [.pointer (some ⟨g236, 0, none⟩), .pointer (some ⟨g237, 0, none⟩), .int .i64 8, .int .i64 1, .int .i64 1, .int .i64 4, .int .i64 10, .int .i64 5, .int .i64 1, .int .i64 3, .int .i64 2, .pointer (some ⟨g238, 0, none⟩), .pointer (some ⟨g239, 0, none⟩), .int .i64 8, .int .i64 1] 172]) := by
 refine Tri.en F43 rfl K43 rfl fun w0 => ?_
 refine J.co 8 rfl ?_
 refine O.p (Pu.someEq N82 rfl) rfl ?_
 refine O.oo 8 rfl ?_
 refine O.q (Qt.lv 0 A3 rfl rfl rfl) rfl ?_
 refine O.oc 2 rfl ?_
 exact J.r1 [0] rfl rfl rfl ⟨rfl, rfl⟩

set_option maxRecDepth 100000 in
theorem nb271 (g228 : Nat) (g235 : Nat) (V230 : Value) (V233 : Value) (g240 : Nat) (g243 : Nat) (g246 : Nat) (b224 : Nat) (g225 : Nat) (g247 : Nat) (g236 : Nat) (g237 : Nat) (g238 : Nat) (g239 : Nat) : Tri Tryz.prog 17 #[.pointer (some ⟨g228, 0, none⟩)] [] [var g228 [.pointer (some ⟨g235, 0, none⟩), .int .i64 2, .int .i64 4, .int .i64 1000, .int .u64 1, V230, .int .i64 0, .int .i64 1, .int .i64 1, .int .i64 10, .int .i64 1, .int .i64 64, .int .i64 20, .int .i64 1, .int .i64 4, .int .i64 10, .int .i64 5, .int .i64 1, .int .i64 3, .int .i64 2, V233, .int .i64 0, .int .i64 0, .int .i64 3, .int .i64 0, .pointer (some ⟨g240, 0, none⟩), .pointer (some ⟨g243, 0, none⟩), .pointer (some ⟨g246, 0, none⟩), .map (some b224), .pointer (some ⟨g225, 0, none⟩), .pointer (some ⟨g247, 0, none⟩)] 90, var g235 [.pointer (some ⟨g236, 0, none⟩), .pointer (some ⟨g237, 0, none⟩), .int .i64 8, .int .i64 1, .int .i64 1, .int .i64 4, .int .i64 10, .int .i64 5, .int .i64 1, .int .i64 3, .int .i64 2, .pointer (some ⟨g238, 0, none⟩), .pointer (some ⟨g239, 0, none⟩), .int .i64 8, .int .i64 1] 172] (fun v L' => v = .int .i64 1 ∧ L' = [var g228 [.pointer (some ⟨g235, 0, none⟩), .int .i64 2, .int .i64 4, .int .i64 1000, .int .u64 1, V230, .int .i64 0, .int .i64 1, .int .i64 1, .int .i64 10, .int .i64 1, .int .i64 64, .int .i64 20, .int .i64 1, .int .i64 4, .int .i64 10, .int .i64 5, .int .i64 1, .int .i64 3, .int .i64 2, V233, .int .i64 0, .int .i64 0, .int .i64 3, .int .i64 0, .pointer (some ⟨g240, 0, none⟩), .pointer (some ⟨g243, 0, none⟩), .pointer (some ⟨g246, 0, none⟩), .map (some b224), .pointer (some ⟨g225, 0, none⟩), .pointer (some ⟨g247, 0, none⟩)] 90, var g235 [.pointer (some ⟨g236, 0, none⟩), .pointer (some ⟨g237, 0, none⟩), .int .i64 8, .int .i64 1, .int .i64 1, .int .i64 4, .int .i64 10, .int .i64 5, .int .i64 1, .int .i64 3, .int .i64 2, .pointer (some ⟨g238, 0, none⟩), .pointer (some ⟨g239, 0, none⟩), .int .i64 8, .int .i64 1] 172]) := by
 refine Tri.en F17 rfl K17 rfl fun w0 => ?_
 refine J.co 7 rfl ?_
 refine O.l (Lo.ca C42 (nb268 g228 g235 V230 V233 g240 g243 g246 b224 g225 g247) [0] rfl rfl .nil) rfl ?_
 rintro _ _ ⟨_, ⟨rfl, rfl⟩, rfl⟩
 refine O.l (Lo.ca C43 (nb270 g235 g236 g237 g238 g239) [1] rfl rfl .nil) rfl ?_
 rintro _ _ ⟨_, ⟨rfl, rfl⟩, rfl⟩
 refine O.oc 2 rfl ?_
 exact J.r1 [1, 0] rfl rfl rfl ⟨rfl, rfl⟩

set_option maxRecDepth 100000 in
theorem nb272 (g237 : Nat) : Tri Tryz.prog 118 #[.pointer (some ⟨g237, 0, none⟩)] [] [var g237 [.bool true, .int .i64 1, .int .i64 1, .int .i64 32] 296] (fun v L' => v = .int .i64 1 ∧ L' = [var g237 [.bool true, .int .i64 1, .int .i64 1, .int .i64 32] 296]) := by
 refine Tri.en F118 rfl K118 rfl fun w0 => ?_
 refine J.co 8 rfl ?_
 refine O.p (Pu.someEq N168 rfl) rfl ?_
 refine O.oo 8 rfl ?_
 refine O.q (Qt.lv 0 A3 rfl rfl rfl) rfl ?_
 refine O.oc 2 rfl ?_
 exact J.r1 [0] rfl rfl rfl ⟨rfl, rfl⟩

set_option maxRecDepth 100000 in
theorem nb273 (g235 : Nat) (g236 : Nat) (g237 : Nat) (g238 : Nat) (g239 : Nat) : Tri Tryz.prog 45 #[.pointer (some ⟨g235, 0, none⟩)] [] [var g235 [.pointer (some ⟨g236, 0, none⟩), .pointer (some ⟨g237, 0, none⟩), .int .i64 8, .int .i64 1, .int .i64 1, .int .i64 4, .int .i64 10, .int .i64 5, .int .i64 1, .int .i64 3, .int .i64 2, .pointer (some ⟨g238, 0, none⟩), .pointer (some ⟨g239, 0, none⟩), .int .i64 8, .int .i64 1] 172, var g237 [.bool true, .int .i64 1, .int .i64 1, .int .i64 32] 296] (fun v L' => v = .int .i64 1 ∧ L' = [var g235 [.pointer (some ⟨g236, 0, none⟩), .pointer (some ⟨g237, 0, none⟩), .int .i64 8, .int .i64 1, .int .i64 1, .int .i64 4, .int .i64 10, .int .i64 5, .int .i64 1, .int .i64 3, .int .i64 2, .pointer (some ⟨g238, 0, none⟩), .pointer (some ⟨g239, 0, none⟩), .int .i64 8, .int .i64 1] 172, var g237 [.bool true, .int .i64 1, .int .i64 1, .int .i64 32] 296]) := by
 refine Tri.en F45 rfl K45 rfl fun w0 => ?_
 refine J.co 8 rfl ?_
 refine O.p (Pu.someEq N82 rfl) rfl ?_
 refine O.oo 8 rfl ?_
 refine O.q (Qt.lv 0 A168 rfl rfl rfl) rfl ?_
 refine O.l (Lo.ca C118 (nb272 g237) [1] rfl rfl .nil) rfl ?_
 rintro _ _ ⟨_, ⟨rfl, rfl⟩, rfl⟩
 refine O.oc 2 rfl ?_
 exact J.r1 [1, 0] rfl rfl rfl ⟨rfl, rfl⟩

set_option maxRecDepth 100000 in
theorem nb274 (g228 : Nat) (g235 : Nat) (V230 : Value) (V233 : Value) (g240 : Nat) (g243 : Nat) (g246 : Nat) (b224 : Nat) (g225 : Nat) (g247 : Nat) (g236 : Nat) (g237 : Nat) (g238 : Nat) (g239 : Nat) : Tri Tryz.prog 19 #[.pointer (some ⟨g228, 0, none⟩)] [] [var g228 [.pointer (some ⟨g235, 0, none⟩), .int .i64 2, .int .i64 4, .int .i64 1000, .int .u64 1, V230, .int .i64 0, .int .i64 1, .int .i64 1, .int .i64 10, .int .i64 1, .int .i64 64, .int .i64 20, .int .i64 1, .int .i64 4, .int .i64 10, .int .i64 5, .int .i64 1, .int .i64 3, .int .i64 2, V233, .int .i64 0, .int .i64 0, .int .i64 3, .int .i64 0, .pointer (some ⟨g240, 0, none⟩), .pointer (some ⟨g243, 0, none⟩), .pointer (some ⟨g246, 0, none⟩), .map (some b224), .pointer (some ⟨g225, 0, none⟩), .pointer (some ⟨g247, 0, none⟩)] 90, var g235 [.pointer (some ⟨g236, 0, none⟩), .pointer (some ⟨g237, 0, none⟩), .int .i64 8, .int .i64 1, .int .i64 1, .int .i64 4, .int .i64 10, .int .i64 5, .int .i64 1, .int .i64 3, .int .i64 2, .pointer (some ⟨g238, 0, none⟩), .pointer (some ⟨g239, 0, none⟩), .int .i64 8, .int .i64 1] 172, var g237 [.bool true, .int .i64 1, .int .i64 1, .int .i64 32] 296] (fun v L' => v = .int .i64 1 ∧ L' = [var g228 [.pointer (some ⟨g235, 0, none⟩), .int .i64 2, .int .i64 4, .int .i64 1000, .int .u64 1, V230, .int .i64 0, .int .i64 1, .int .i64 1, .int .i64 10, .int .i64 1, .int .i64 64, .int .i64 20, .int .i64 1, .int .i64 4, .int .i64 10, .int .i64 5, .int .i64 1, .int .i64 3, .int .i64 2, V233, .int .i64 0, .int .i64 0, .int .i64 3, .int .i64 0, .pointer (some ⟨g240, 0, none⟩), .pointer (some ⟨g243, 0, none⟩), .pointer (some ⟨g246, 0, none⟩), .map (some b224), .pointer (some ⟨g225, 0, none⟩), .pointer (some ⟨g247, 0, none⟩)] 90, var g235 [.pointer (some ⟨g236, 0, none⟩), .pointer (some ⟨g237, 0, none⟩), .int .i64 8, .int .i64 1, .int .i64 1, .int .i64 4, .int .i64 10, .int .i64 5, .int .i64 1, .int .i64 3, .int .i64 2, .pointer (some ⟨g238, 0, none⟩), .pointer (some ⟨g239, 0, none⟩), .int .i64 8, .int .i64 1] 172, var g237 [.bool true, .int .i64 1, .int .i64 1, .int .i64 32] 296]) := by
 refine Tri.en F19 rfl K19 rfl fun w0 => ?_
 refine J.co 7 rfl ?_
 refine O.l (Lo.ca C42 (nb268 g228 g235 V230 V233 g240 g243 g246 b224 g225 g247) [0] rfl rfl .nil) rfl ?_
 rintro _ _ ⟨_, ⟨rfl, rfl⟩, rfl⟩
 refine O.l (Lo.ca C45 (nb273 g235 g236 g237 g238 g239) [1, 2] rfl rfl .nil) rfl ?_
 rintro _ _ ⟨_, ⟨rfl, rfl⟩, rfl⟩
 refine O.oc 2 rfl ?_
 exact J.r1 [2, 0, 1] rfl rfl rfl ⟨rfl, rfl⟩

set_option maxRecDepth 100000 in
theorem nb275 : Tri Tryz.prog 181 #[.agg #[.int .i64 2, .int .i64 (-1), .int .i64 0, .int .i64 0, .int .i64 0, .int .i64 0], .int .i64 5, .int .i64 8, .int .i64 1, .int .i64 1] [] [] (fun v L' => v = .agg #[.int .i64 2, .int .i64 0, .int .i64 (-1), .int .i64 5, .int .i64 8, .int .i64 1, .int .i64 1] ∧ L' = []) := by
 refine Tri.en F181 rfl K181 rfl fun w0 => ?_
 refine J.co 2 rfl ?_
 refine O.l (Lo.bx rfl rfl) rfl ?_
 rintro _ _ ⟨g446, rfl, rfl⟩
 refine O.l (Lo.al Y43 rfl) rfl ?_
 rintro _ _ ⟨g447, rfl, rfl⟩
 refine O.oo 4 rfl ?_
 refine O.q (Qt.lv 1 A3 rfl rfl rfl) rfl ?_
 refine O.oo 1 rfl ?_
 refine O.q (Qt.lv 1 A3 rfl rfl rfl) rfl ?_
 refine O.oo 1 rfl ?_
 refine O.q (Qt.lv 1 A3 rfl rfl rfl) rfl ?_
 refine O.oo 4 rfl ?_
 refine O.p (Pu.build [(0, .int .i64 2), (1, .int .i64 0), (2, .int .i64 (-1)), (3, .int .i64 5), (4, .int .i64 8), (5, .int .i64 1), (6, .int .i64 1)] [.int .i64 2, .int .i64 0, .int .i64 (-1), .int .i64 5, .int .i64 8, .int .i64 1, .int .i64 1] #[(0, 1), (1, 1), (2, 1), (3, 1), (4, 1), (5, 1), (6, 1)] U43 Y43 (places43 N43) rfl (by kernel_rfl)) rfl ?_
 refine O.l0 (Lo.st 0 Z43 rfl rfl rfl rfl rfl rfl rfl) ?_
 rintro _ _ rfl
 refine O.oc 1 rfl ?_
 exact J.rn [_] [] rfl ⟨⟨_, _, 0, 0, _, rfl, Cel.var 0 rfl, rfl, Cut.agg _ A43 Z43 rfl rfl⟩, trivial⟩ rfl ⟨rfl, rfl⟩

set_option maxRecDepth 100000 in
theorem nb276 (g368 : Nat) (g228 : Nat) (V443 : Value) : Tri Tryz.prog 180 #[.pointer (some ⟨g368, 0, none⟩), .agg #[.int .i64 2, .int .i64 0, .int .i64 0, .int .i64 0, .int .i64 0, .int .i64 0, .int .i64 0, .int .i64 2, .int .i64 0, .int .i64 (-1), .int .i64 5, .int .i64 8, .int .i64 1, .int .i64 1, .int .i64 0, .int .i64 0, .int .i64 0, .int .i64 0, .int .i64 0, .int .i64 0, .int .i64 0, .int .i64 0, .int .i64 0]] [] [var g368 [.pointer (some ⟨g228, 0, none⟩), V443, Value.slice none 0 0] 261] (fun v L' => ∃ (V450 : Value), v = .tuple #[] ∧ L' = [var g368 [.pointer (some ⟨g228, 0, none⟩), V443, V450] 261, row V450 62 23 ([[.int .i64 2, .int .i64 0, .int .i64 0, .int .i64 0, .int .i64 0, .int .i64 0, .int .i64 0, .int .i64 2, .int .i64 0, .int .i64 (-1), .int .i64 5, .int .i64 8, .int .i64 1, .int .i64 1, .int .i64 0, .int .i64 0, .int .i64 0, .int .i64 0, .int .i64 0, .int .i64 0, .int .i64 0, .int .i64 0, .int .i64 0]].map id)]) := by
 refine Tri.en F180 rfl K180 rfl fun w0 => ?_
 refine J.co 2 rfl ?_
 refine O.l (Lo.bx rfl rfl) rfl ?_
 rintro _ _ ⟨g448, rfl, rfl⟩
 refine O.oc 1 rfl ?_
 refine J.dm [(0, false), (1, false), (2, false), (3, false), (4, false), (5, false), (6, false), (7, true), (8, true), (9, false), (10, false), (11, false), (12, true)] [0, 1] Tryz.mixed (by kernel_rfl) rfl ?_
 refine Mx.r 5 rfl ?_
 refine Mx.q rfl (Qt.lv 1 A34 rfl rfl rfl) rfl ?_
 refine Mx.q rfl (Qt.lva 0 A62 Z62 rfl rfl rfl) rfl ?_
 refine Mx.l rfl (Lo.bm id [[.int .i64 2, .int .i64 0, .int .i64 0, .int .i64 0, .int .i64 0, .int .i64 0, .int .i64 0, .int .i64 2, .int .i64 0, .int .i64 (-1), .int .i64 5, .int .i64 8, .int .i64 1, .int .i64 1, .int .i64 0, .int .i64 0, .int .i64 0, .int .i64 0, .int .i64 0, .int .i64 0, .int .i64 0, .int .i64 0, .int .i64 0]] U34 Z62 Y62 rfl rfl rfl (by kernel_rfl) rfl rfl) rfl ?_
 rintro V449 _ rfl
 refine MxK.gp [1, 2] [0, 1] rfl rfl ?_
 refine Mx.nr 62 23 (([] : List (List Value)).map id) rfl rfl rfl ?_
 refine Mx.l rfl (Lo.am 0 N34 info62 rfl rfl rfl rfl rfl (Src.row 1 rfl) (id_one rfl) (Nat.le_of_ble_eq_true rfl) (Nat.le_of_ble_eq_true rfl)) rfl ?_
 rintro V450 _ rfl
 refine MxK.gp [2, 3] [0, 1] rfl rfl ?_
 refine Mx.r 3 rfl ?_
 refine Mx.one rfl (fun _ h => by cases h <;> rfl) (Src.row 0 rfl) (fun hV451 => ?_)
 refine Mx.l0 rfl (Lo.so 3 Z34 hV451 rfl rfl rfl rfl) ?_
 rintro _ _ rfl
 refine MxK.al [2, 3] rfl (by kernel_rfl) ?_
 refine Mx.nil ?_
 exact J.dn [] [3, 0] rfl trivial rfl ⟨V450, rfl, rfl⟩

set_option maxRecDepth 100000 in
theorem nb277 (g368 : Nat) (g228 : Nat) (V385 : Value) (g235 : Nat) (V230 : Value) (V233 : Value) (g240 : Nat) (g243 : Nat) (g246 : Nat) (b224 : Nat) (g225 : Nat) (g247 : Nat) (g236 : Nat) (g237 : Nat) (g238 : Nat) (g239 : Nat) : Tri Tryz.prog 83 #[.pointer (some ⟨g368, 0, none⟩), .agg #[.int .i64 2, .int .i64 3, .int .i64 (-1), .int .i64 50, .int .i64 9, .int .i64 0, .int .i64 2], .int .i64 5] [] [var g368 [.pointer (some ⟨g228, 0, none⟩), V385, Value.slice none 0 0] 261, var g228 [.pointer (some ⟨g235, 0, none⟩), .int .i64 2, .int .i64 4, .int .i64 1000, .int .u64 1, V230, .int .i64 0, .int .i64 1, .int .i64 1, .int .i64 10, .int .i64 1, .int .i64 64, .int .i64 20, .int .i64 1, .int .i64 4, .int .i64 10, .int .i64 5, .int .i64 1, .int .i64 3, .int .i64 2, V233, .int .i64 0, .int .i64 0, .int .i64 3, .int .i64 0, .pointer (some ⟨g240, 0, none⟩), .pointer (some ⟨g243, 0, none⟩), .pointer (some ⟨g246, 0, none⟩), .map (some b224), .pointer (some ⟨g225, 0, none⟩), .pointer (some ⟨g247, 0, none⟩)] 90, row V385 51 7 ([[.int .i64 1, .int .i64 0, .int .i64 0, .int .i64 3, .int .i64 0, .int .i64 1, .int .i64 8]].map id), var g235 [.pointer (some ⟨g236, 0, none⟩), .pointer (some ⟨g237, 0, none⟩), .int .i64 8, .int .i64 1, .int .i64 1, .int .i64 4, .int .i64 10, .int .i64 5, .int .i64 1, .int .i64 3, .int .i64 2, .pointer (some ⟨g238, 0, none⟩), .pointer (some ⟨g239, 0, none⟩), .int .i64 8, .int .i64 1] 172, var g237 [.bool true, .int .i64 1, .int .i64 1, .int .i64 32] 296] (fun v L' => ∃ (V443 : Value) (V450 : Value), v = .tuple #[] ∧ L' = [var g368 [.pointer (some ⟨g228, 0, none⟩), V443, V450] 261, var g228 [.pointer (some ⟨g235, 0, none⟩), .int .i64 2, .int .i64 4, .int .i64 1000, .int .u64 1, V230, .int .i64 0, .int .i64 1, .int .i64 1, .int .i64 10, .int .i64 1, .int .i64 64, .int .i64 20, .int .i64 1, .int .i64 4, .int .i64 10, .int .i64 5, .int .i64 1, .int .i64 3, .int .i64 2, V233, .int .i64 0, .int .i64 0, .int .i64 3, .int .i64 0, .pointer (some ⟨g240, 0, none⟩), .pointer (some ⟨g243, 0, none⟩), .pointer (some ⟨g246, 0, none⟩), .map (some b224), .pointer (some ⟨g225, 0, none⟩), .pointer (some ⟨g247, 0, none⟩)] 90, var g235 [.pointer (some ⟨g236, 0, none⟩), .pointer (some ⟨g237, 0, none⟩), .int .i64 8, .int .i64 1, .int .i64 1, .int .i64 4, .int .i64 10, .int .i64 5, .int .i64 1, .int .i64 3, .int .i64 2, .pointer (some ⟨g238, 0, none⟩), .pointer (some ⟨g239, 0, none⟩), .int .i64 8, .int .i64 1] 172, var g237 [.bool true, .int .i64 1, .int .i64 1, .int .i64 32] 296, row V443 51 7 ([[.int .i64 1, .int .i64 0, .int .i64 0, .int .i64 3, .int .i64 0, .int .i64 1, .int .i64 8], [.int .i64 4, .int .i64 0, .int .i64 0, .int .i64 2, .int .i64 5, .int .i64 3, .int .i64 0]].map id), row V450 62 23 ([[.int .i64 2, .int .i64 0, .int .i64 0, .int .i64 0, .int .i64 0, .int .i64 0, .int .i64 0, .int .i64 2, .int .i64 0, .int .i64 (-1), .int .i64 5, .int .i64 8, .int .i64 1, .int .i64 1, .int .i64 0, .int .i64 0, .int .i64 0, .int .i64 0, .int .i64 0, .int .i64 0, .int .i64 0, .int .i64 0, .int .i64 0]].map id)]) := by
 refine Tri.en F83 rfl K83 rfl fun w0 => ?_
 refine J.co 2 rfl ?_
 refine O.l (Lo.bx rfl rfl) rfl ?_
 rintro _ _ ⟨g441, rfl, rfl⟩
 refine O.oo 6 rfl ?_
 refine O.q (Qt.lv 1 A29 rfl rfl rfl) rfl ?_
 refine O.oo 6 rfl ?_
 refine O.q (Qt.lv 0 A3 rfl rfl rfl) rfl ?_
 refine O.oo 2 rfl ?_
 refine O.q (Qt.lv 0 A3 rfl rfl rfl) rfl ?_
 refine O.l (Lo.ca C80 (nb267 g368 g228 V385 g235 V230 V233 g240 g243 g246 b224 g225 g247) [1, 2, 3] rfl rfl .nil) rfl ?_
 rintro _ _ ⟨_, ⟨V443, rfl, rfl⟩, rfl⟩
 refine O.oc 2 rfl ?_
 refine J.dm [(0, false), (1, false), (2, false), (3, false), (4, false), (5, false), (6, false), (7, false), (8, false), (9, true), (10, true)] [1, 3] Tryz.mixed (by kernel_rfl) rfl ?_
 refine Mx.r 1 rfl ?_
 refine Mx.q rfl (Qt.lv 1 A3 rfl rfl rfl) rfl ?_
 refine Mx.r 1 rfl ?_
 refine Mx.q rfl (Qt.lv 1 A3 rfl rfl rfl) rfl ?_
 refine Mx.r 3 rfl ?_
 refine Mx.q rfl (Qt.lv 0 A3 rfl rfl rfl) rfl ?_
 refine Mx.p rfl (Pu.build [(0, .int .i64 2), (1, .int .i64 (-1)), (2, .int .i64 0)] [.int .i64 2, .int .i64 (-1), .int .i64 0, .int .i64 0, .int .i64 0, .int .i64 0] #[(0, 1), (1, 1), (2, 1), (3, 1), (4, 1), (5, 1)] U41 Y41 (places41 N41) rfl (by kernel_rfl)) rfl ?_
 refine Mx.l rfl (Lo.al Y41 rfl) rfl ?_
 rintro _ _ ⟨g445, rfl, rfl⟩
 refine MxK.gp [2, 4] [0, 1] rfl rfl ?_
 refine Mx.l0 rfl (Lo.st 0 Z41 rfl rfl rfl rfl rfl rfl rfl) ?_
 rintro _ _ rfl
 refine MxK.al [2, 4] rfl (by kernel_rfl) ?_
 refine Mx.nil ?_
 refine J.dm [(0, false), (1, false), (2, false), (3, false), (5, false), (7, false), (4, true), (6, true), (8, true), (9, true), (10, false), (11, true)] [0] Tryz.mixed (by kernel_rfl) rfl ?_
 refine Mx.r 1 rfl ?_
 refine Mx.q rfl (Qt.lva 0 A41 Z41 rfl rfl rfl) rfl ?_
 refine Mx.r 4 rfl ?_
 refine Mx.l rfl (Lo.ca C18 (nb269 g228 g235 V230 V233 g240 g243 g246 b224 g225 g247 g236 g237 g238 g239) [2, 5] rfl rfl .nil) rfl ?_
 rintro _ _ ⟨_, ⟨rfl, rfl⟩, rfl⟩
 refine MxK.gp [2] [0] rfl rfl ?_
 refine Mx.l rfl (Lo.ca C17 (nb271 g228 g235 V230 V233 g240 g243 g246 b224 g225 g247 g236 g237 g238 g239) [0, 1] rfl rfl .nil) rfl ?_
 rintro _ _ ⟨_, ⟨rfl, rfl⟩, rfl⟩
 refine MxK.gp [2] [0] rfl rfl ?_
 refine Mx.l rfl (Lo.ca C19 (nb274 g228 g235 V230 V233 g240 g243 g246 b224 g225 g247 g236 g237 g238 g239) [0, 1, 6] rfl rfl .nil) rfl ?_
 rintro _ _ ⟨_, ⟨rfl, rfl⟩, rfl⟩
 refine MxK.gp [3] [0] rfl rfl ?_
 refine Mx.l rfl (Lo.ca C181 nb275 [] rfl rfl .nil) rfl ?_
 rintro _ _ ⟨_, ⟨rfl, rfl⟩, rfl⟩
 refine MxK.al [3] rfl (by kernel_rfl) ?_
 refine Mx.p rfl (Pu.build [(0, .int .i64 2), (2, .agg #[.int .i64 2, .int .i64 0, .int .i64 (-1), .int .i64 5, .int .i64 8, .int .i64 1, .int .i64 1])] [.int .i64 2, .int .i64 0, .int .i64 0, .int .i64 0, .int .i64 0, .int .i64 0, .int .i64 0, .int .i64 2, .int .i64 0, .int .i64 (-1), .int .i64 5, .int .i64 8, .int .i64 1, .int .i64 1, .int .i64 0, .int .i64 0, .int .i64 0, .int .i64 0, .int .i64 0, .int .i64 0, .int .i64 0, .int .i64 0, .int .i64 0] #[(0, 1), (1, 6), (7, 7), (14, 9)] U62 Y62 (places62 N62) rfl (by kernel_rfl)) rfl ?_
 refine Mx.l rfl (Lo.ca C180 (nb276 g368 g228 V443) [4] rfl rfl .nil) rfl ?_
 rintro _ _ ⟨_, ⟨V450, rfl, rfl⟩, rfl⟩
 refine MxK.al [5] rfl (by kernel_rfl) ?_
 refine Mx.nil ?_
 exact J.dn [] [0, 2, 3, 4, 6, 1] rfl trivial rfl ⟨V443, V450, rfl, rfl⟩

set_option maxRecDepth 100000 in
theorem nb278 (g368 : Nat) (g228 : Nat) (V385 : Value) (g235 : Nat) (V230 : Value) (V233 : Value) (g240 : Nat) (g243 : Nat) (g246 : Nat) (b224 : Nat) (g225 : Nat) (g247 : Nat) (g244 : Nat) (b245 : Nat) (V358 : Value) (g236 : Nat) (g237 : Nat) (g238 : Nat) (g239 : Nat) : Tri Tryz.prog 85 #[.pointer (some ⟨g368, 0, none⟩), .agg #[.int .i64 3, .int .i64 (-1), .int .i64 0, .int .i64 1, .int .i64 50, .int .i64 9]] [] [var g368 [.pointer (some ⟨g228, 0, none⟩), V385, Value.slice none 0 0] 261, var g228 [.pointer (some ⟨g235, 0, none⟩), .int .i64 2, .int .i64 4, .int .i64 1000, .int .u64 1, V230, .int .i64 0, .int .i64 1, .int .i64 1, .int .i64 10, .int .i64 1, .int .i64 64, .int .i64 20, .int .i64 1, .int .i64 4, .int .i64 10, .int .i64 5, .int .i64 1, .int .i64 3, .int .i64 2, V233, .int .i64 0, .int .i64 0, .int .i64 2, .int .i64 0, .pointer (some ⟨g240, 0, none⟩), .pointer (some ⟨g243, 0, none⟩), .pointer (some ⟨g246, 0, none⟩), .map (some b224), .pointer (some ⟨g225, 0, none⟩), .pointer (some ⟨g247, 0, none⟩)] 90, var g243 [.pointer (some ⟨g244, 0, none⟩), .int .i64 1] 206, var g244 [.map (some b245), .int .i64 1, V358] 294, mi b245 (Value.int .i64) [(2, 0)], row V358 66 7 ([[.int .i64 2, .int .i64 3, .int .i64 (-1), .int .i64 50, .int .i64 9, .int .i64 0, .int .i64 2]].map id), row V385 51 7 ([[.int .i64 1, .int .i64 0, .int .i64 0, .int .i64 3, .int .i64 0, .int .i64 1, .int .i64 8]].map id), var g235 [.pointer (some ⟨g236, 0, none⟩), .pointer (some ⟨g237, 0, none⟩), .int .i64 8, .int .i64 1, .int .i64 1, .int .i64 4, .int .i64 10, .int .i64 5, .int .i64 1, .int .i64 3, .int .i64 2, .pointer (some ⟨g238, 0, none⟩), .pointer (some ⟨g239, 0, none⟩), .int .i64 8, .int .i64 1] 172, var g237 [.bool true, .int .i64 1, .int .i64 1, .int .i64 32] 296] (fun v L' => ∃ (V458 : Value) (V459 : Value) (V456 : Value), v = .tuple #[] ∧ L' = [var g368 [.pointer (some ⟨g228, 0, none⟩), V458, V459] 261, var g228 [.pointer (some ⟨g235, 0, none⟩), .int .i64 2, .int .i64 4, .int .i64 1000, .int .u64 1, V230, .int .i64 0, .int .i64 1, .int .i64 1, .int .i64 10, .int .i64 1, .int .i64 64, .int .i64 20, .int .i64 1, .int .i64 4, .int .i64 10, .int .i64 5, .int .i64 1, .int .i64 3, .int .i64 2, V233, .int .i64 0, .int .i64 0, .int .i64 3, .int .i64 0, .pointer (some ⟨g240, 0, none⟩), .pointer (some ⟨g243, 0, none⟩), .pointer (some ⟨g246, 0, none⟩), .map (some b224), .pointer (some ⟨g225, 0, none⟩), .pointer (some ⟨g247, 0, none⟩)] 90, var g243 [.pointer (some ⟨g244, 0, none⟩), .int .i64 1] 206, var g244 [.map (some b245), .int .i64 1, V456] 294, mi b245 (Value.int .i64) [(3, 0)], var g235 [.pointer (some ⟨g236, 0, none⟩), .pointer (some ⟨g237, 0, none⟩), .int .i64 8, .int .i64 1, .int .i64 1, .int .i64 4, .int .i64 10, .int .i64 5, .int .i64 1, .int .i64 3, .int .i64 2, .pointer (some ⟨g238, 0, none⟩), .pointer (some ⟨g239, 0, none⟩), .int .i64 8, .int .i64 1] 172, var g237 [.bool true, .int .i64 1, .int .i64 1, .int .i64 32] 296, row V458 51 7 ([[.int .i64 1, .int .i64 0, .int .i64 0, .int .i64 3, .int .i64 0, .int .i64 1, .int .i64 8], [.int .i64 4, .int .i64 0, .int .i64 0, .int .i64 2, .int .i64 5, .int .i64 3, .int .i64 0]].map id), row V459 62 23 ([[.int .i64 2, .int .i64 0, .int .i64 0, .int .i64 0, .int .i64 0, .int .i64 0, .int .i64 0, .int .i64 2, .int .i64 0, .int .i64 (-1), .int .i64 5, .int .i64 8, .int .i64 1, .int .i64 1, .int .i64 0, .int .i64 0, .int .i64 0, .int .i64 0, .int .i64 0, .int .i64 0, .int .i64 0, .int .i64 0, .int .i64 0]].map id), row V456 66 7 ([[.int .i64 3, .int .i64 1, .int .i64 (-1), .int .i64 50, .int .i64 9, .int .i64 0, .int .i64 3]].map id)]) := by
 refine Tri.en F85 rfl K85 rfl fun w0 => ?_
 refine J.co 2 rfl ?_
 refine O.l (Lo.bx rfl rfl) rfl ?_
 rintro _ _ ⟨g387, rfl, rfl⟩
 refine O.oo 6 rfl ?_
 refine O.q (Qt.lv 1 A29 rfl rfl rfl) rfl ?_
 refine O.oo 7 rfl ?_
 refine O.q (Qt.lv 2 A3 rfl rfl rfl) rfl ?_
 refine O.p (Pu.add' rfl rfl (by decide)) rfl ?_
 refine O.oo 2 rfl ?_
 refine O.l0 (Lo.st 2 Z3 rfl rfl rfl rfl rfl rfl rfl) ?_
 rintro _ _ rfl
 refine O.oc 2 rfl ?_
 refine J.drawA Tryz.mixed ?_
 refine A.edge 13 19 rfl ?_ ?_
 ·
  refine A.mx [(0, false), (1, false), (2, false), (3, false), (4, false), (5, false), (6, false), (7, false), (8, false), (9, false), (10, false), (11, false), (12, false), (19, true), (13, true), (14, true), (15, false), (16, false), (17, false), (18, false), (20, true), (21, false), (22, false)] [0, 2] (by kernel_rfl) rfl ?_
  refine Mx.r 3 rfl ?_
  refine Mx.q rfl (Qt.lv 1 A84 rfl rfl rfl) rfl ?_
  refine Mx.q rfl (Qt.lva 0 A41 Z41 rfl rfl rfl) rfl ?_
  refine Mx.r 3 rfl ?_
  refine Mx.q rfl (Qt.lv 1 A3 rfl rfl rfl) rfl ?_
  refine Mx.r 3 rfl ?_
  refine Mx.q rfl (Qt.lv 1 A3 rfl rfl rfl) rfl ?_
  refine Mx.l rfl (Lo.al Y66 rfl) rfl ?_
  rintro _ _ ⟨g388, rfl, rfl⟩
  refine MxK.gp [1, 3] [0, 1] rfl rfl ?_
  refine Mx.l rfl (Lo.ca C84 nb227 [] rfl rfl .nil) rfl ?_
  rintro _ _ ⟨_, ⟨rfl, rfl⟩, rfl⟩
  refine MxK.gp [1, 3] [0, 1] rfl rfl ?_
  refine Mx.l rfl (Lo.ca C182 (nb266 g243 g244 b245 V358) [4, 5, 6, 7] rfl rfl .nil) rfl ?_
  rintro _ _ ⟨_, ⟨V440, rfl, rfl⟩, rfl⟩
  refine MxK.gp [5, 7] [0, 1] rfl rfl ?_
  refine Mx.r 4 rfl ?_
  refine Mx.l0 rfl (Lo.st 4 Z66 rfl rfl rfl rfl rfl rfl rfl) ?_
  rintro _ _ rfl
  refine MxK.al [5, 7] rfl (by kernel_rfl) ?_
  refine Mx.r 2 rfl ?_
  refine Mx.nil ?_
  refine J.co 7 rfl ?_
  refine O.q (Qt.lva 4 A66 Z66 rfl rfl rfl) rfl ?_
  refine O.l (Lo.ca C83 (nb277 g368 g228 V385 g235 V230 V233 g240 g243 g246 b224 g225 g247 g236 g237 g238 g239) [6, 7, 8, 9, 10] rfl rfl .nil) rfl ?_
  rintro _ _ ⟨_, ⟨V443, V450, rfl, rfl⟩, rfl⟩
  refine O.oc 1 rfl ?_
  exact J.dn [] [0, 1, 6, 7, 8, 2, 3, 4, 5, 9] rfl trivial rfl ⟨V443, V450, V440, rfl, rfl⟩
 ·
  refine A.edge 14 19 rfl ?_ ?_
  ·
   refine A.mx [(0, false), (1, false), (2, false), (3, false), (4, false), (5, false), (6, false), (7, false), (8, false), (9, false), (10, false), (11, false), (12, false), (13, true), (19, true), (14, true), (15, false), (16, false), (17, false), (18, false), (20, true), (21, false), (22, false)] [0, 2] (by kernel_rfl) rfl ?_
   refine Mx.r 3 rfl ?_
   refine Mx.q rfl (Qt.lv 1 A84 rfl rfl rfl) rfl ?_
   refine Mx.q rfl (Qt.lva 0 A41 Z41 rfl rfl rfl) rfl ?_
   refine Mx.r 3 rfl ?_
   refine Mx.q rfl (Qt.lv 1 A3 rfl rfl rfl) rfl ?_
   refine Mx.r 3 rfl ?_
   refine Mx.q rfl (Qt.lv 1 A3 rfl rfl rfl) rfl ?_
   refine Mx.l rfl (Lo.ca C84 nb227 [] rfl rfl .nil) rfl ?_
   rintro _ _ ⟨_, ⟨rfl, rfl⟩, rfl⟩
   refine MxK.gp [0, 2] [0, 1] rfl rfl ?_
   refine Mx.l rfl (Lo.al Y66 rfl) rfl ?_
   rintro _ _ ⟨g452, rfl, rfl⟩
   refine MxK.gp [1, 3] [0, 1] rfl rfl ?_
   refine Mx.l rfl (Lo.ca C182 (nb266 g243 g244 b245 V358) [4, 5, 6, 7] rfl rfl .nil) rfl ?_
   rintro _ _ ⟨_, ⟨V453, rfl, rfl⟩, rfl⟩
   refine MxK.gp [5, 7] [0, 1] rfl rfl ?_
   refine Mx.r 4 rfl ?_
   refine Mx.l0 rfl (Lo.st 4 Z66 rfl rfl rfl rfl rfl rfl rfl) ?_
   rintro _ _ rfl
   refine MxK.al [5, 7] rfl (by kernel_rfl) ?_
   refine Mx.r 2 rfl ?_
   refine Mx.nil ?_
   refine J.co 7 rfl ?_
   refine O.q (Qt.lva 4 A66 Z66 rfl rfl rfl) rfl ?_
   refine O.l (Lo.ca C83 (nb277 g368 g228 V385 g235 V230 V233 g240 g243 g246 b224 g225 g247 g236 g237 g238 g239) [6, 7, 8, 9, 10] rfl rfl .nil) rfl ?_
   rintro _ _ ⟨_, ⟨V454, V455, rfl, rfl⟩, rfl⟩
   refine O.oc 1 rfl ?_
   exact J.dn [] [0, 1, 6, 7, 8, 2, 3, 4, 5, 9] rfl trivial rfl ⟨V454, V455, V453, rfl, rfl⟩
  ·
   refine A.mx [(0, false), (1, false), (2, false), (3, false), (4, false), (5, false), (6, false), (7, false), (8, false), (9, false), (10, false), (11, false), (12, false), (13, true), (14, true), (15, false), (16, false), (17, false), (18, false), (19, true), (20, true), (21, false), (22, false)] [0, 2] (by kernel_rfl) rfl ?_
   refine Mx.r 3 rfl ?_
   refine Mx.q rfl (Qt.lv 1 A84 rfl rfl rfl) rfl ?_
   refine Mx.q rfl (Qt.lva 0 A41 Z41 rfl rfl rfl) rfl ?_
   refine Mx.r 3 rfl ?_
   refine Mx.q rfl (Qt.lv 1 A3 rfl rfl rfl) rfl ?_
   refine Mx.r 3 rfl ?_
   refine Mx.q rfl (Qt.lv 1 A3 rfl rfl rfl) rfl ?_
   refine Mx.l rfl (Lo.ca C84 nb227 [] rfl rfl .nil) rfl ?_
   rintro _ _ ⟨_, ⟨rfl, rfl⟩, rfl⟩
   refine MxK.gp [0, 2] [0, 1] rfl rfl ?_
   refine Mx.l rfl (Lo.ca C182 (nb266 g243 g244 b245 V358) [3, 4, 5, 6] rfl rfl .nil) rfl ?_
   rintro _ _ ⟨_, ⟨V456, rfl, rfl⟩, rfl⟩
   refine MxK.gp [4, 6] [0, 1] rfl rfl ?_
   refine Mx.r 4 rfl ?_
   refine Mx.l rfl (Lo.al Y66 rfl) rfl ?_
   rintro _ _ ⟨g457, rfl, rfl⟩
   refine MxK.gp [5, 7] [0, 1] rfl rfl ?_
   refine Mx.l0 rfl (Lo.st 0 Z66 rfl rfl rfl rfl rfl rfl rfl) ?_
   rintro _ _ rfl
   refine MxK.al [5, 7] rfl (by kernel_rfl) ?_
   refine Mx.r 2 rfl ?_
   refine Mx.nil ?_
   refine J.co 7 rfl ?_
   refine O.q (Qt.lva 0 A66 Z66 rfl rfl rfl) rfl ?_
   refine O.l (Lo.ca C83 (nb277 g368 g228 V385 g235 V230 V233 g240 g243 g246 b224 g225 g247 g236 g237 g238 g239) [6, 7, 8, 9, 10] rfl rfl .nil) rfl ?_
   rintro _ _ ⟨_, ⟨V458, V459, rfl, rfl⟩, rfl⟩
   refine O.oc 1 rfl ?_
   exact J.dn [] [0, 1, 7, 8, 9, 2, 3, 4, 5, 10] rfl trivial rfl ⟨V458, V459, V456, rfl, rfl⟩

set_option maxRecDepth 100000 in
theorem nb279 (g368 : Nat) (g228 : Nat) (V458 : Value) (V459 : Value) (g235 : Nat) (V230 : Value) (V233 : Value) (g240 : Nat) (g243 : Nat) (g246 : Nat) (b224 : Nat) (g225 : Nat) (g247 : Nat) (g305 : Nat) : Tri Tryz.prog 86 #[.pointer (some ⟨g368, 0, none⟩)] [] [var g368 [.pointer (some ⟨g228, 0, none⟩), V458, V459] 261, var g228 [.pointer (some ⟨g235, 0, none⟩), .int .i64 2, .int .i64 4, .int .i64 1000, .int .u64 1, V230, .int .i64 0, .int .i64 1, .int .i64 1, .int .i64 10, .int .i64 1, .int .i64 64, .int .i64 20, .int .i64 1, .int .i64 4, .int .i64 10, .int .i64 5, .int .i64 1, .int .i64 3, .int .i64 2, V233, .int .i64 0, .int .i64 0, .int .i64 3, .int .i64 0, .pointer (some ⟨g240, 0, none⟩), .pointer (some ⟨g243, 0, none⟩), .pointer (some ⟨g246, 0, none⟩), .map (some b224), .pointer (some ⟨g225, 0, none⟩), .pointer (some ⟨g247, 0, none⟩)] 90, var g246 (.int .i64 1 :: .pointer (some ⟨g305, 0, none⟩) :: (rp 15 (Value.pointer none) [])) 210, var g305 [.int .i64 1, .int .i64 2, .int .i64 (-1), .int .i64 50, .int .i64 9, .int .i64 0, .int .i64 1] 66] (fun v L' => v = .tuple #[] ∧ L' = [var g368 [.pointer (some ⟨g228, 0, none⟩), V458, V459] 261, var g228 [.pointer (some ⟨g235, 0, none⟩), .int .i64 2, .int .i64 4, .int .i64 1000, .int .u64 1, V230, .int .i64 0, .int .i64 1, .int .i64 1, .int .i64 10, .int .i64 1, .int .i64 64, .int .i64 20, .int .i64 1, .int .i64 4, .int .i64 10, .int .i64 5, .int .i64 1, .int .i64 3, .int .i64 2, V233, .int .i64 0, .int .i64 0, .int .i64 3, .int .i64 0, .pointer (some ⟨g240, 0, none⟩), .pointer (some ⟨g243, 0, none⟩), .pointer (some ⟨g246, 0, none⟩), .map (some b224), .pointer (some ⟨g225, 0, none⟩), .pointer (some ⟨g247, 0, none⟩)] 90, var g246 (.int .i64 1 :: .pointer (some ⟨g305, 0, none⟩) :: (rp 15 (Value.pointer none) [])) 210, var g305 [.int .i64 1, .int .i64 2, .int .i64 (-1), .int .i64 50, .int .i64 9, .int .i64 0, .int .i64 1] 66]) := by
 refine Tri.en F86 rfl K86 rfl fun w0 => ?_
 refine J.co 5 rfl ?_
 refine O.q (Qt.lv 0 A29 rfl rfl rfl) rfl ?_
 refine O.oc 3 rfl ?_
 refine J.un ?_
 refine J.co 6 rfl ?_
 refine O.q (Qt.lv 1 A85 rfl rfl rfl) rfl ?_
 refine O.l (Lo.ca C183 (nb173 g246 g305) [2, 3] rfl rfl .nil) rfl ?_
 rintro _ _ ⟨_, ⟨rfl, rfl⟩, rfl⟩
 refine O.oc 4 rfl ?_
 exact J.dn [] [2, 3, 0, 1] rfl trivial rfl ⟨rfl, rfl⟩

set_option maxRecDepth 100000 in
theorem nb280 (g368 : Nat) (g364 : Nat) (g365 : Nat) (g228 : Nat) (g235 : Nat) (V230 : Value) (V233 : Value) (g240 : Nat) (g243 : Nat) (g246 : Nat) (b224 : Nat) (g225 : Nat) (g247 : Nat) (g244 : Nat) (b245 : Nat) (V358 : Value) (V241 : Value) (b242 : Nat) (g236 : Nat) (g237 : Nat) (g238 : Nat) (g239 : Nat) (g305 : Nat) : Tri Tryz.prog 77 #[.pointer (some ⟨g368, 0, none⟩), .pointer (some ⟨g364, 0, none⟩), .pointer (some ⟨g365, 0, none⟩)] [] [var g364 [.pointer (some ⟨g228, 0, none⟩)] 29, var g365 [.int .i64 3, .int .i64 (-1), .int .i64 0, .int .i64 1, .int .i64 50, .int .i64 9] 41, var g228 [.pointer (some ⟨g235, 0, none⟩), .int .i64 2, .int .i64 4, .int .i64 1000, .int .u64 1, V230, .int .i64 0, .int .i64 1, .int .i64 1, .int .i64 10, .int .i64 1, .int .i64 64, .int .i64 20, .int .i64 1, .int .i64 4, .int .i64 10, .int .i64 5, .int .i64 1, .int .i64 3, .int .i64 2, V233, .int .i64 0, .int .i64 0, .int .i64 2, .int .i64 0, .pointer (some ⟨g240, 0, none⟩), .pointer (some ⟨g243, 0, none⟩), .pointer (some ⟨g246, 0, none⟩), .map (some b224), .pointer (some ⟨g225, 0, none⟩), .pointer (some ⟨g247, 0, none⟩)] 90, row V230 56 14 ([[.int .i64 1, .int .i64 1, .int .i64 10, .int .i64 1, .int .i64 64, .int .i64 20, .int .i64 1, .int .i64 4, .int .i64 10, .int .i64 5, .int .i64 1, .int .i64 3, .int .i64 2, Value.slice none 0 0]].map id), mi b224 (id : Value → Value) [(1, (.agg #[.int .i64 1, .int .i64 2, .int .i64 (-1), .int .i64 50, .int .i64 9, .int .i64 0, .int .i64 1, .int .i64 1, Value.slice none 0 0] : Value))], var g243 [.pointer (some ⟨g244, 0, none⟩), .int .i64 1] 206, var g244 [.map (some b245), .int .i64 1, V358] 294, mi b245 (Value.int .i64) [(2, 0)], var g240 [V241, .int .i64 0, .int .i64 2, .map (some b242)] 180, mi b242 (Value.int .i64) [(1, 0), (2, 1)], row V241 3 1 ([[.int .i64 1], [.int .i64 2], [.int .i64 0], [.int .i64 0], [.int .i64 0], [.int .i64 0], [.int .i64 0], [.int .i64 0], [.int .i64 0], [.int .i64 0], [.int .i64 0], [.int .i64 0], [.int .i64 0], [.int .i64 0], [.int .i64 0], [.int .i64 0], [.int .i64 0], [.int .i64 0], [.int .i64 0], [.int .i64 0], [.int .i64 0], [.int .i64 0], [.int .i64 0], [.int .i64 0], [.int .i64 0], [.int .i64 0], [.int .i64 0], [.int .i64 0], [.int .i64 0], [.int .i64 0], [.int .i64 0], [.int .i64 0], [.int .i64 0], [.int .i64 0], [.int .i64 0], [.int .i64 0], [.int .i64 0], [.int .i64 0], [.int .i64 0], [.int .i64 0], [.int .i64 0], [.int .i64 0], [.int .i64 0], [.int .i64 0], [.int .i64 0], [.int .i64 0], [.int .i64 0], [.int .i64 0], [.int .i64 0], [.int .i64 0], [.int .i64 0], [.int .i64 0], [.int .i64 0], [.int .i64 0], [.int .i64 0], [.int .i64 0], [.int .i64 0], [.int .i64 0], [.int .i64 0], [.int .i64 0], [.int .i64 0], [.int .i64 0], [.int .i64 0], [.int .i64 0]].map id), var g235 [.pointer (some ⟨g236, 0, none⟩), .pointer (some ⟨g237, 0, none⟩), .int .i64 8, .int .i64 1, .int .i64 1, .int .i64 4, .int .i64 10, .int .i64 5, .int .i64 1, .int .i64 3, .int .i64 2, .pointer (some ⟨g238, 0, none⟩), .pointer (some ⟨g239, 0, none⟩), .int .i64 8, .int .i64 1] 172, var g238 (.int .i64 8 :: .int .i64 0 :: .int .i64 0 :: .int .i64 1 :: .int .i64 1 :: (rp 124 (.int .i64 0) [])) 302, var g368 [.pointer (some ⟨g228, 0, none⟩), Value.slice none 0 0, Value.slice none 0 0] 261, row V358 66 7 ([[.int .i64 2, .int .i64 3, .int .i64 (-1), .int .i64 50, .int .i64 9, .int .i64 0, .int .i64 2]].map id), var g237 [.bool true, .int .i64 1, .int .i64 1, .int .i64 32] 296, var g246 (.int .i64 1 :: .pointer (some ⟨g305, 0, none⟩) :: (rp 15 (Value.pointer none) [])) 210, var g305 [.int .i64 1, .int .i64 2, .int .i64 (-1), .int .i64 50, .int .i64 9, .int .i64 0, .int .i64 1] 66] (fun v L' => ∃ (V456 : Value) (V458 : Value) (V459 : Value), v = .int .i64 0 ∧ L' = [var g364 [.pointer (some ⟨g228, 0, none⟩)] 29, var g365 [.int .i64 3, .int .i64 (-1), .int .i64 0, .int .i64 1, .int .i64 50, .int .i64 9] 41, var g228 [.pointer (some ⟨g235, 0, none⟩), .int .i64 2, .int .i64 4, .int .i64 1000, .int .u64 1, V230, .int .i64 0, .int .i64 1, .int .i64 1, .int .i64 10, .int .i64 1, .int .i64 64, .int .i64 20, .int .i64 1, .int .i64 4, .int .i64 10, .int .i64 5, .int .i64 1, .int .i64 3, .int .i64 2, V233, .int .i64 0, .int .i64 0, .int .i64 3, .int .i64 0, .pointer (some ⟨g240, 0, none⟩), .pointer (some ⟨g243, 0, none⟩), .pointer (some ⟨g246, 0, none⟩), .map (some b224), .pointer (some ⟨g225, 0, none⟩), .pointer (some ⟨g247, 0, none⟩)] 90, row V230 56 14 ([[.int .i64 1, .int .i64 1, .int .i64 10, .int .i64 1, .int .i64 64, .int .i64 20, .int .i64 1, .int .i64 4, .int .i64 10, .int .i64 5, .int .i64 1, .int .i64 3, .int .i64 2, Value.slice none 0 0]].map id), mi b224 (id : Value → Value) [(1, (.agg #[.int .i64 1, .int .i64 2, .int .i64 (-1), .int .i64 50, .int .i64 9, .int .i64 0, .int .i64 1, .int .i64 1, Value.slice none 0 0] : Value))], var g243 [.pointer (some ⟨g244, 0, none⟩), .int .i64 1] 206, var g244 [.map (some b245), .int .i64 1, V456] 294, mi b245 (Value.int .i64) [(3, 0)], var g240 [V241, .int .i64 0, .int .i64 3, .map (some b242)] 180, mi b242 (Value.int .i64) [(1, 0), (2, 1), (3, 2)], row V241 3 1 ([[.int .i64 1], [.int .i64 2], [.int .i64 3], [.int .i64 0], [.int .i64 0], [.int .i64 0], [.int .i64 0], [.int .i64 0], [.int .i64 0], [.int .i64 0], [.int .i64 0], [.int .i64 0], [.int .i64 0], [.int .i64 0], [.int .i64 0], [.int .i64 0], [.int .i64 0], [.int .i64 0], [.int .i64 0], [.int .i64 0], [.int .i64 0], [.int .i64 0], [.int .i64 0], [.int .i64 0], [.int .i64 0], [.int .i64 0], [.int .i64 0], [.int .i64 0], [.int .i64 0], [.int .i64 0], [.int .i64 0], [.int .i64 0], [.int .i64 0], [.int .i64 0], [.int .i64 0], [.int .i64 0], [.int .i64 0], [.int .i64 0], [.int .i64 0], [.int .i64 0], [.int .i64 0], [.int .i64 0], [.int .i64 0], [.int .i64 0], [.int .i64 0], [.int .i64 0], [.int .i64 0], [.int .i64 0], [.int .i64 0], [.int .i64 0], [.int .i64 0], [.int .i64 0], [.int .i64 0], [.int .i64 0], [.int .i64 0], [.int .i64 0], [.int .i64 0], [.int .i64 0], [.int .i64 0], [.int .i64 0], [.int .i64 0], [.int .i64 0], [.int .i64 0], [.int .i64 0]].map id), var g235 [.pointer (some ⟨g236, 0, none⟩), .pointer (some ⟨g237, 0, none⟩), .int .i64 8, .int .i64 1, .int .i64 1, .int .i64 4, .int .i64 10, .int .i64 5, .int .i64 1, .int .i64 3, .int .i64 2, .pointer (some ⟨g238, 0, none⟩), .pointer (some ⟨g239, 0, none⟩), .int .i64 8, .int .i64 1] 172, var g238 (.int .i64 8 :: .int .i64 0 :: .int .i64 1 :: .int .i64 1 :: .int .i64 1 :: (rp 124 (.int .i64 0) [])) 302, var g368 [.pointer (some ⟨g228, 0, none⟩), V458, V459] 261, var g237 [.bool true, .int .i64 1, .int .i64 1, .int .i64 32] 296, var g246 (.int .i64 1 :: .pointer (some ⟨g305, 0, none⟩) :: (rp 15 (Value.pointer none) [])) 210, var g305 [.int .i64 1, .int .i64 2, .int .i64 (-1), .int .i64 50, .int .i64 9, .int .i64 0, .int .i64 1] 66, row V456 66 7 ([[.int .i64 3, .int .i64 1, .int .i64 (-1), .int .i64 50, .int .i64 9, .int .i64 0, .int .i64 3]].map id), row V458 51 7 ([[.int .i64 1, .int .i64 0, .int .i64 0, .int .i64 3, .int .i64 0, .int .i64 1, .int .i64 8], [.int .i64 4, .int .i64 0, .int .i64 0, .int .i64 2, .int .i64 5, .int .i64 3, .int .i64 0]].map id), row V459 62 23 ([[.int .i64 2, .int .i64 0, .int .i64 0, .int .i64 0, .int .i64 0, .int .i64 0, .int .i64 0, .int .i64 2, .int .i64 0, .int .i64 (-1), .int .i64 5, .int .i64 8, .int .i64 1, .int .i64 1, .int .i64 0, .int .i64 0, .int .i64 0, .int .i64 0, .int .i64 0, .int .i64 0, .int .i64 0, .int .i64 0, .int .i64 0]].map id)]) := by
 refine Tri.en F77 rfl K77 rfl fun w0 => ?_
 refine J.co 7 rfl ?_
 refine O.q (Qt.lv 0 A29 rfl rfl rfl) rfl ?_
 refine O.q (Qt.lva 1 A41 Z41 rfl rfl rfl) rfl ?_
 refine O.l (Lo.ca C78 (nb209 g228 g235 V230 V233 g240 g243 g246 b224 g225 g247) [2, 3] rfl rfl .nil) rfl ?_
 rintro _ _ ⟨_, ⟨rfl, rfl⟩, rfl⟩
 refine O.oo 7 rfl ?_
 refine O.q (Qt.lv 2 A29 rfl rfl rfl) rfl ?_
 refine O.oo 1 rfl ?_
 refine O.q (Qt.lv 3 A3 rfl rfl rfl) rfl ?_
 refine O.l (Lo.ca C79 (nb216 g228 g235 V230 V233 g240 g243 g246 b224 g225 g247 g244 b245 V358 V241 b242) [0, 4, 5, 6, 7, 8, 9, 10] rfl rfl .nil) rfl ?_
 rintro _ _ ⟨_, ⟨rfl, rfl⟩, rfl⟩
 refine O.oc 4 rfl ?_
 refine J.drawTail 6 Tryz.mixed (by kernel_rfl) ?_
 refine S.q (Qt.lv 9 A29 rfl rfl rfl) rfl ?_
 refine S.r 2 rfl ?_
 refine S.q (Qt.lv 0 A82 rfl rfl rfl) rfl ?_
 refine S.r 1 rfl ?_
 refine S.q (Qt.lv 10 A3 rfl rfl rfl) rfl ?_
 refine S.endO ?_
 refine O.l (Lo.ca C81 (nb220 g235 g236 g237 g238 g239) [11, 12] rfl rfl .nil) rfl ?_
 rintro _ _ ⟨_, ⟨rfl, rfl⟩, rfl⟩
 refine O.oo 3 rfl ?_
 refine O.q (Qt.lv 11 A29 rfl rfl rfl) rfl ?_
 refine O.q (Qt.lva 12 A41 Z41 rfl rfl rfl) rfl ?_
 refine O.l (Lo.ca C82 (nb223 g228 g235 V230 V233 g240 g243 g246 b224 g225 g247 g236 g237 g238 g239) [2, 0] rfl rfl .nil) rfl ?_
 rintro _ _ ⟨_, ⟨rfl, rfl⟩, rfl⟩
 refine O.oc 3 rfl ?_
 refine J.dm [(0, false), (1, false), (2, false), (3, false), (4, false), (5, false), (6, false), (7, true), (8, true)] [11, 12] Tryz.mixed (by kernel_rfl) rfl ?_
 refine Mx.r 2 rfl ?_
 refine Mx.q rfl (Qt.lv 1 A3 rfl rfl rfl) rfl ?_
 refine Mx.r 2 rfl ?_
 refine Mx.q rfl (Qt.lv 1 A3 rfl rfl rfl) rfl ?_
 refine Mx.q rfl (Qt.lv 0 A29 rfl rfl rfl) rfl ?_
 refine Mx.l rfl (Lo.ca C18 (nb225 g228 g235 V230 V233 g240 g243 g246 b224 g225 g247 g236 g237 g238 g239) [0, 1] rfl rfl .nil) rfl ?_
 rintro _ _ ⟨_, ⟨rfl, rfl⟩, rfl⟩
 refine MxK.gp [11, 12] [0, 1] rfl rfl ?_
 refine Mx.l rfl (Lo.ca C80 (nb226 g368 g228 g235 V230 V233 g240 g243 g246 b224 g225 g247) [13, 0] rfl rfl .nil) rfl ?_
 rintro _ _ ⟨_, ⟨V385, rfl, rfl⟩, rfl⟩
 refine MxK.al [13, 14] rfl (by kernel_rfl) ?_
 refine Mx.nil ?_
 refine J.co 9 rfl ?_
 refine O.q (Qt.lva 14 A41 Z41 rfl rfl rfl) rfl ?_
 refine O.l (Lo.ca C85 (nb278 g368 g228 V385 g235 V230 V233 g240 g243 g246 b224 g225 g247 g244 b245 V358 g236 g237 g238 g239) [0, 1, 6, 7, 8, 15, 2, 3, 16] rfl rfl .nil) rfl ?_
 rintro _ _ ⟨_, ⟨V458, V459, V456, rfl, rfl⟩, rfl⟩
 refine O.oo 4 rfl ?_
 refine O.l (Lo.ca C86 (nb279 g368 g228 V458 V459 g235 V230 V233 g240 g243 g246 b224 g225 g247 g305) [0, 1, 18, 19] rfl rfl .nil) rfl ?_
 rintro _ _ ⟨_, ⟨rfl, rfl⟩, rfl⟩
 refine O.oc 5 rfl ?_
 exact J.r1 [18, 19, 1, 17, 13, 4, 5, 6, 14, 15, 16, 7, 12, 0, 8, 2, 3, 11, 9, 10] rfl rfl rfl ⟨V456, V458, V459, rfl, rfl⟩

set_option maxRecDepth 100000 in
theorem nb281 (g228 : Nat) (g364 : Nat) (g365 : Nat) (g235 : Nat) (V230 : Value) (V233 : Value) (g240 : Nat) (g243 : Nat) (g246 : Nat) (b224 : Nat) (g225 : Nat) (g247 : Nat) (g244 : Nat) (b245 : Nat) (V358 : Value) (V241 : Value) (b242 : Nat) (g236 : Nat) (g237 : Nat) (g238 : Nat) (g239 : Nat) (g305 : Nat) : Tri Tryz.prog 76 #[.pointer (some ⟨g228, 0, none⟩), .func (.func 77) #[] #[.pointer (some ⟨g364, 0, none⟩), .pointer (some ⟨g365, 0, none⟩)]] [] [var g228 [.pointer (some ⟨g235, 0, none⟩), .int .i64 2, .int .i64 4, .int .i64 1000, .int .u64 1, V230, .int .i64 0, .int .i64 1, .int .i64 1, .int .i64 10, .int .i64 1, .int .i64 64, .int .i64 20, .int .i64 1, .int .i64 4, .int .i64 10, .int .i64 5, .int .i64 1, .int .i64 3, .int .i64 2, V233, .int .i64 0, .int .i64 0, .int .i64 2, .int .i64 0, .pointer (some ⟨g240, 0, none⟩), .pointer (some ⟨g243, 0, none⟩), .pointer (some ⟨g246, 0, none⟩), .map (some b224), .pointer (some ⟨g225, 0, none⟩), .pointer (some ⟨g247, 0, none⟩)] 90, var g364 [.pointer (some ⟨g228, 0, none⟩)] 29, var g365 [.int .i64 3, .int .i64 (-1), .int .i64 0, .int .i64 1, .int .i64 50, .int .i64 9] 41, row V230 56 14 ([[.int .i64 1, .int .i64 1, .int .i64 10, .int .i64 1, .int .i64 64, .int .i64 20, .int .i64 1, .int .i64 4, .int .i64 10, .int .i64 5, .int .i64 1, .int .i64 3, .int .i64 2, Value.slice none 0 0]].map id), mi b224 (id : Value → Value) [(1, (.agg #[.int .i64 1, .int .i64 2, .int .i64 (-1), .int .i64 50, .int .i64 9, .int .i64 0, .int .i64 1, .int .i64 1, Value.slice none 0 0] : Value))], var g243 [.pointer (some ⟨g244, 0, none⟩), .int .i64 1] 206, var g244 [.map (some b245), .int .i64 1, V358] 294, mi b245 (Value.int .i64) [(2, 0)], var g240 [V241, .int .i64 0, .int .i64 2, .map (some b242)] 180, mi b242 (Value.int .i64) [(1, 0), (2, 1)], row V241 3 1 ([[.int .i64 1], [.int .i64 2], [.int .i64 0], [.int .i64 0], [.int .i64 0], [.int .i64 0], [.int .i64 0], [.int .i64 0], [.int .i64 0], [.int .i64 0], [.int .i64 0], [.int .i64 0], [.int .i64 0], [.int .i64 0], [.int .i64 0], [.int .i64 0], [.int .i64 0], [.int .i64 0], [.int .i64 0], [.int .i64 0], [.int .i64 0], [.int .i64 0], [.int .i64 0], [.int .i64 0], [.int .i64 0], [.int .i64 0], [.int .i64 0], [.int .i64 0], [.int .i64 0], [.int .i64 0], [.int .i64 0], [.int .i64 0], [.int .i64 0], [.int .i64 0], [.int .i64 0], [.int .i64 0], [.int .i64 0], [.int .i64 0], [.int .i64 0], [.int .i64 0], [.int .i64 0], [.int .i64 0], [.int .i64 0], [.int .i64 0], [.int .i64 0], [.int .i64 0], [.int .i64 0], [.int .i64 0], [.int .i64 0], [.int .i64 0], [.int .i64 0], [.int .i64 0], [.int .i64 0], [.int .i64 0], [.int .i64 0], [.int .i64 0], [.int .i64 0], [.int .i64 0], [.int .i64 0], [.int .i64 0], [.int .i64 0], [.int .i64 0], [.int .i64 0], [.int .i64 0]].map id), var g235 [.pointer (some ⟨g236, 0, none⟩), .pointer (some ⟨g237, 0, none⟩), .int .i64 8, .int .i64 1, .int .i64 1, .int .i64 4, .int .i64 10, .int .i64 5, .int .i64 1, .int .i64 3, .int .i64 2, .pointer (some ⟨g238, 0, none⟩), .pointer (some ⟨g239, 0, none⟩), .int .i64 8, .int .i64 1] 172, var g238 (.int .i64 8 :: .int .i64 0 :: .int .i64 0 :: .int .i64 1 :: .int .i64 1 :: (rp 124 (.int .i64 0) [])) 302, row V358 66 7 ([[.int .i64 2, .int .i64 3, .int .i64 (-1), .int .i64 50, .int .i64 9, .int .i64 0, .int .i64 2]].map id), var g237 [.bool true, .int .i64 1, .int .i64 1, .int .i64 32] 296, var g246 (.int .i64 1 :: .pointer (some ⟨g305, 0, none⟩) :: (rp 15 (Value.pointer none) [])) 210, var g305 [.int .i64 1, .int .i64 2, .int .i64 (-1), .int .i64 50, .int .i64 9, .int .i64 0, .int .i64 1] 66] (fun v L' => ∃ (V458 : Value) (V459 : Value) (V456 : Value), v = .tuple #[.agg #[V458, V459], .int .i64 0] ∧ L' = [var g228 [.pointer (some ⟨g235, 0, none⟩), .int .i64 2, .int .i64 4, .int .i64 1000, .int .u64 1, V230, .int .i64 0, .int .i64 1, .int .i64 1, .int .i64 10, .int .i64 1, .int .i64 64, .int .i64 20, .int .i64 1, .int .i64 4, .int .i64 10, .int .i64 5, .int .i64 1, .int .i64 3, .int .i64 2, V233, .int .i64 0, .int .i64 0, .int .i64 3, .int .i64 0, .pointer (some ⟨g240, 0, none⟩), .pointer (some ⟨g243, 0, none⟩), .pointer (some ⟨g246, 0, none⟩), .map (some b224), .pointer (some ⟨g225, 0, none⟩), .pointer (some ⟨g247, 0, none⟩)] 90, var g364 [.pointer (some ⟨g228, 0, none⟩)] 29, var g365 [.int .i64 3, .int .i64 (-1), .int .i64 0, .int .i64 1, .int .i64 50, .int .i64 9] 41, row V230 56 14 ([[.int .i64 1, .int .i64 1, .int .i64 10, .int .i64 1, .int .i64 64, .int .i64 20, .int .i64 1, .int .i64 4, .int .i64 10, .int .i64 5, .int .i64 1, .int .i64 3, .int .i64 2, Value.slice none 0 0]].map id), mi b224 (id : Value → Value) [(1, (.agg #[.int .i64 1, .int .i64 2, .int .i64 (-1), .int .i64 50, .int .i64 9, .int .i64 0, .int .i64 1, .int .i64 1, Value.slice none 0 0] : Value))], var g243 [.pointer (some ⟨g244, 0, none⟩), .int .i64 1] 206, var g244 [.map (some b245), .int .i64 1, V456] 294, mi b245 (Value.int .i64) [(3, 0)], var g240 [V241, .int .i64 0, .int .i64 3, .map (some b242)] 180, mi b242 (Value.int .i64) [(1, 0), (2, 1), (3, 2)], row V241 3 1 ([[.int .i64 1], [.int .i64 2], [.int .i64 3], [.int .i64 0], [.int .i64 0], [.int .i64 0], [.int .i64 0], [.int .i64 0], [.int .i64 0], [.int .i64 0], [.int .i64 0], [.int .i64 0], [.int .i64 0], [.int .i64 0], [.int .i64 0], [.int .i64 0], [.int .i64 0], [.int .i64 0], [.int .i64 0], [.int .i64 0], [.int .i64 0], [.int .i64 0], [.int .i64 0], [.int .i64 0], [.int .i64 0], [.int .i64 0], [.int .i64 0], [.int .i64 0], [.int .i64 0], [.int .i64 0], [.int .i64 0], [.int .i64 0], [.int .i64 0], [.int .i64 0], [.int .i64 0], [.int .i64 0], [.int .i64 0], [.int .i64 0], [.int .i64 0], [.int .i64 0], [.int .i64 0], [.int .i64 0], [.int .i64 0], [.int .i64 0], [.int .i64 0], [.int .i64 0], [.int .i64 0], [.int .i64 0], [.int .i64 0], [.int .i64 0], [.int .i64 0], [.int .i64 0], [.int .i64 0], [.int .i64 0], [.int .i64 0], [.int .i64 0], [.int .i64 0], [.int .i64 0], [.int .i64 0], [.int .i64 0], [.int .i64 0], [.int .i64 0], [.int .i64 0], [.int .i64 0]].map id), var g235 [.pointer (some ⟨g236, 0, none⟩), .pointer (some ⟨g237, 0, none⟩), .int .i64 8, .int .i64 1, .int .i64 1, .int .i64 4, .int .i64 10, .int .i64 5, .int .i64 1, .int .i64 3, .int .i64 2, .pointer (some ⟨g238, 0, none⟩), .pointer (some ⟨g239, 0, none⟩), .int .i64 8, .int .i64 1] 172, var g238 (.int .i64 8 :: .int .i64 0 :: .int .i64 1 :: .int .i64 1 :: .int .i64 1 :: (rp 124 (.int .i64 0) [])) 302, var g237 [.bool true, .int .i64 1, .int .i64 1, .int .i64 32] 296, var g246 (.int .i64 1 :: .pointer (some ⟨g305, 0, none⟩) :: (rp 15 (Value.pointer none) [])) 210, var g305 [.int .i64 1, .int .i64 2, .int .i64 (-1), .int .i64 50, .int .i64 9, .int .i64 0, .int .i64 1] 66, row V458 51 7 ([[.int .i64 1, .int .i64 0, .int .i64 0, .int .i64 3, .int .i64 0, .int .i64 1, .int .i64 8], [.int .i64 4, .int .i64 0, .int .i64 0, .int .i64 2, .int .i64 5, .int .i64 3, .int .i64 0]].map id), row V459 62 23 ([[.int .i64 2, .int .i64 0, .int .i64 0, .int .i64 0, .int .i64 0, .int .i64 0, .int .i64 0, .int .i64 2, .int .i64 0, .int .i64 (-1), .int .i64 5, .int .i64 8, .int .i64 1, .int .i64 1, .int .i64 0, .int .i64 0, .int .i64 0, .int .i64 0, .int .i64 0, .int .i64 0, .int .i64 0, .int .i64 0, .int .i64 0]].map id), row V456 66 7 ([[.int .i64 3, .int .i64 1, .int .i64 (-1), .int .i64 50, .int .i64 9, .int .i64 0, .int .i64 3]].map id)]) := by
 refine Tri.en F76 rfl K76 rfl fun w0 => ?_
 refine J.co 2 rfl ?_
 refine O.l (Lo.al Y36 rfl) rfl ?_
 rintro _ _ ⟨g367, rfl, rfl⟩
 refine O.oo 6 rfl ?_
 refine O.l (Lo.ca C39 (nb207 g228 g235 V230 V233 g240 g243 g246 b224 g225 g247) [1] rfl rfl .nil) rfl ?_
 rintro _ _ ⟨_, ⟨rfl, rfl⟩, rfl⟩
 refine O.oo 7 rfl ?_
 refine O.p (Pu.build [(0, .pointer (some ⟨g228, 0, none⟩))] [.pointer (some ⟨g228, 0, none⟩), Value.slice none 0 0, Value.slice none 0 0] #[(0, 1), (1, 2)] U261 Y261 (places261 N261) rfl (by kernel_rfl)) rfl ?_
 refine O.l (Lo.bx rfl rfl) rfl ?_
 rintro _ _ ⟨g368, rfl, rfl⟩
 refine O.oo 7 rfl ?_
 refine O.l (Lo.cv C77 rfl rfl (nb280 g368 g364 g365 g228 g235 V230 V233 g240 g243 g246 b224 g225 g247 g244 b245 V358 V241 b242 g236 g237 g238 g239 g305) [3, 4, 1, 5, 6, 7, 8, 9, 10, 11, 12, 13, 14, 0, 15, 16, 17, 18] rfl .nil) rfl ?_
 rintro _ _ ⟨_, ⟨V456, V458, V459, rfl, rfl⟩, rfl⟩
 refine O.oo 14 rfl ?_
 refine O.q (Qt.lva 13 A36 Z36 rfl rfl rfl) rfl ?_
 refine O.one (Src.row 18 rfl) (fun hV460 => ?_)
 refine O.one (Src.row 19 rfl) (fun hV461 => ?_)
 refine O.l0 (Lo.st 20 Z36 rfl rfl rfl rfl rfl (by simp only [List.all_cons, List.all_nil, Bool.and_true, hV460, hV461] <;> rfl) rfl) ?_
 rintro _ _ rfl
 refine O.oc 2 rfl ?_
 exact J.rn [_, _] [2, 0, 1, 3, 4, 5, 6, 7, 8, 9, 10, 11, 12, 14, 15, 16, 18, 19, 17] rfl ⟨⟨_, _, 0, 0, _, rfl, Cel.var 20 rfl, rfl, Cut.agg _ A36 Z36 rfl rfl⟩, rfl, trivial⟩ rfl ⟨V458, V459, V456, rfl, rfl⟩

set_option maxRecDepth 100000 in
theorem nb282 (g228 : Nat) (g235 : Nat) (V230 : Value) (V233 : Value) (g240 : Nat) (g243 : Nat) (g246 : Nat) (b224 : Nat) (g225 : Nat) (g247 : Nat) (g244 : Nat) (b245 : Nat) (V358 : Value) (V241 : Value) (b242 : Nat) (g236 : Nat) (g237 : Nat) (g238 : Nat) (g239 : Nat) (g305 : Nat) : Tri Tryz.prog 32 #[.pointer (some ⟨g228, 0, none⟩), .agg #[.int .i64 3, .int .i64 (-1), .int .i64 0, .int .i64 1, .int .i64 50, .int .i64 9]] [] [var g228 [.pointer (some ⟨g235, 0, none⟩), .int .i64 2, .int .i64 4, .int .i64 1000, .int .u64 1, V230, .int .i64 0, .int .i64 1, .int .i64 1, .int .i64 10, .int .i64 1, .int .i64 64, .int .i64 20, .int .i64 1, .int .i64 4, .int .i64 10, .int .i64 5, .int .i64 1, .int .i64 3, .int .i64 2, V233, .int .i64 0, .int .i64 0, .int .i64 2, .int .i64 0, .pointer (some ⟨g240, 0, none⟩), .pointer (some ⟨g243, 0, none⟩), .pointer (some ⟨g246, 0, none⟩), .map (some b224), .pointer (some ⟨g225, 0, none⟩), .pointer (some ⟨g247, 0, none⟩)] 90, row V230 56 14 ([[.int .i64 1, .int .i64 1, .int .i64 10, .int .i64 1, .int .i64 64, .int .i64 20, .int .i64 1, .int .i64 4, .int .i64 10, .int .i64 5, .int .i64 1, .int .i64 3, .int .i64 2, Value.slice none 0 0]].map id), mi b224 (id : Value → Value) [(1, (.agg #[.int .i64 1, .int .i64 2, .int .i64 (-1), .int .i64 50, .int .i64 9, .int .i64 0, .int .i64 1, .int .i64 1, Value.slice none 0 0] : Value))], var g243 [.pointer (some ⟨g244, 0, none⟩), .int .i64 1] 206, var g244 [.map (some b245), .int .i64 1, V358] 294, mi b245 (Value.int .i64) [(2, 0)], var g240 [V241, .int .i64 0, .int .i64 2, .map (some b242)] 180, mi b242 (Value.int .i64) [(1, 0), (2, 1)], row V241 3 1 ([[.int .i64 1], [.int .i64 2], [.int .i64 0], [.int .i64 0], [.int .i64 0], [.int .i64 0], [.int .i64 0], [.int .i64 0], [.int .i64 0], [.int .i64 0], [.int .i64 0], [.int .i64 0], [.int .i64 0], [.int .i64 0], [.int .i64 0], [.int .i64 0], [.int .i64 0], [.int .i64 0], [.int .i64 0], [.int .i64 0], [.int .i64 0], [.int .i64 0], [.int .i64 0], [.int .i64 0], [.int .i64 0], [.int .i64 0], [.int .i64 0], [.int .i64 0], [.int .i64 0], [.int .i64 0], [.int .i64 0], [.int .i64 0], [.int .i64 0], [.int .i64 0], [.int .i64 0], [.int .i64 0], [.int .i64 0], [.int .i64 0], [.int .i64 0], [.int .i64 0], [.int .i64 0], [.int .i64 0], [.int .i64 0], [.int .i64 0], [.int .i64 0], [.int .i64 0], [.int .i64 0], [.int .i64 0], [.int .i64 0], [.int .i64 0], [.int .i64 0], [.int .i64 0], [.int .i64 0], [.int .i64 0], [.int .i64 0], [.int .i64 0], [.int .i64 0], [.int .i64 0], [.int .i64 0], [.int .i64 0], [.int .i64 0], [.int .i64 0], [.int .i64 0], [.int .i64 0]].map id), var g235 [.pointer (some ⟨g236, 0, none⟩), .pointer (some ⟨g237, 0, none⟩), .int .i64 8, .int .i64 1, .int .i64 1, .int .i64 4, .int .i64 10, .int .i64 5, .int .i64 1, .int .i64 3, .int .i64 2, .pointer (some ⟨g238, 0, none⟩), .pointer (some ⟨g239, 0, none⟩), .int .i64 8, .int .i64 1] 172, var g238 (.int .i64 8 :: .int .i64 0 :: .int .i64 0 :: .int .i64 1 :: .int .i64 1 :: (rp 124 (.int .i64 0) [])) 302, row V358 66 7 ([[.int .i64 2, .int .i64 3, .int .i64 (-1), .int .i64 50, .int .i64 9, .int .i64 0, .int .i64 2]].map id), var g237 [.bool true, .int .i64 1, .int .i64 1, .int .i64 32] 296, var g246 (.int .i64 1 :: .pointer (some ⟨g305, 0, none⟩) :: (rp 15 (Value.pointer none) [])) 210, var g305 [.int .i64 1, .int .i64 2, .int .i64 (-1), .int .i64 50, .int .i64 9, .int .i64 0, .int .i64 1] 66] (fun v L' => ∃ (V458 : Value) (V459 : Value) (V456 : Value), v = .tuple #[.agg #[V458, V459], .int .i64 0] ∧ L' = [var g228 [.pointer (some ⟨g235, 0, none⟩), .int .i64 2, .int .i64 4, .int .i64 1000, .int .u64 1, V230, .int .i64 0, .int .i64 1, .int .i64 1, .int .i64 10, .int .i64 1, .int .i64 64, .int .i64 20, .int .i64 1, .int .i64 4, .int .i64 10, .int .i64 5, .int .i64 1, .int .i64 3, .int .i64 2, V233, .int .i64 0, .int .i64 0, .int .i64 3, .int .i64 0, .pointer (some ⟨g240, 0, none⟩), .pointer (some ⟨g243, 0, none⟩), .pointer (some ⟨g246, 0, none⟩), .map (some b224), .pointer (some ⟨g225, 0, none⟩), .pointer (some ⟨g247, 0, none⟩)] 90, row V230 56 14 ([[.int .i64 1, .int .i64 1, .int .i64 10, .int .i64 1, .int .i64 64, .int .i64 20, .int .i64 1, .int .i64 4, .int .i64 10, .int .i64 5, .int .i64 1, .int .i64 3, .int .i64 2, Value.slice none 0 0]].map id), mi b224 (id : Value → Value) [(1, (.agg #[.int .i64 1, .int .i64 2, .int .i64 (-1), .int .i64 50, .int .i64 9, .int .i64 0, .int .i64 1, .int .i64 1, Value.slice none 0 0] : Value))], var g243 [.pointer (some ⟨g244, 0, none⟩), .int .i64 1] 206, var g244 [.map (some b245), .int .i64 1, V456] 294, mi b245 (Value.int .i64) [(3, 0)], var g240 [V241, .int .i64 0, .int .i64 3, .map (some b242)] 180, mi b242 (Value.int .i64) [(1, 0), (2, 1), (3, 2)], row V241 3 1 ([[.int .i64 1], [.int .i64 2], [.int .i64 3], [.int .i64 0], [.int .i64 0], [.int .i64 0], [.int .i64 0], [.int .i64 0], [.int .i64 0], [.int .i64 0], [.int .i64 0], [.int .i64 0], [.int .i64 0], [.int .i64 0], [.int .i64 0], [.int .i64 0], [.int .i64 0], [.int .i64 0], [.int .i64 0], [.int .i64 0], [.int .i64 0], [.int .i64 0], [.int .i64 0], [.int .i64 0], [.int .i64 0], [.int .i64 0], [.int .i64 0], [.int .i64 0], [.int .i64 0], [.int .i64 0], [.int .i64 0], [.int .i64 0], [.int .i64 0], [.int .i64 0], [.int .i64 0], [.int .i64 0], [.int .i64 0], [.int .i64 0], [.int .i64 0], [.int .i64 0], [.int .i64 0], [.int .i64 0], [.int .i64 0], [.int .i64 0], [.int .i64 0], [.int .i64 0], [.int .i64 0], [.int .i64 0], [.int .i64 0], [.int .i64 0], [.int .i64 0], [.int .i64 0], [.int .i64 0], [.int .i64 0], [.int .i64 0], [.int .i64 0], [.int .i64 0], [.int .i64 0], [.int .i64 0], [.int .i64 0], [.int .i64 0], [.int .i64 0], [.int .i64 0], [.int .i64 0]].map id), var g235 [.pointer (some ⟨g236, 0, none⟩), .pointer (some ⟨g237, 0, none⟩), .int .i64 8, .int .i64 1, .int .i64 1, .int .i64 4, .int .i64 10, .int .i64 5, .int .i64 1, .int .i64 3, .int .i64 2, .pointer (some ⟨g238, 0, none⟩), .pointer (some ⟨g239, 0, none⟩), .int .i64 8, .int .i64 1] 172, var g238 (.int .i64 8 :: .int .i64 0 :: .int .i64 1 :: .int .i64 1 :: .int .i64 1 :: (rp 124 (.int .i64 0) [])) 302, var g237 [.bool true, .int .i64 1, .int .i64 1, .int .i64 32] 296, var g246 (.int .i64 1 :: .pointer (some ⟨g305, 0, none⟩) :: (rp 15 (Value.pointer none) [])) 210, var g305 [.int .i64 1, .int .i64 2, .int .i64 (-1), .int .i64 50, .int .i64 9, .int .i64 0, .int .i64 1] 66, row V458 51 7 ([[.int .i64 1, .int .i64 0, .int .i64 0, .int .i64 3, .int .i64 0, .int .i64 1, .int .i64 8], [.int .i64 4, .int .i64 0, .int .i64 0, .int .i64 2, .int .i64 5, .int .i64 3, .int .i64 0]].map id), row V459 62 23 ([[.int .i64 2, .int .i64 0, .int .i64 0, .int .i64 0, .int .i64 0, .int .i64 0, .int .i64 0, .int .i64 2, .int .i64 0, .int .i64 (-1), .int .i64 5, .int .i64 8, .int .i64 1, .int .i64 1, .int .i64 0, .int .i64 0, .int .i64 0, .int .i64 0, .int .i64 0, .int .i64 0, .int .i64 0, .int .i64 0, .int .i64 0]].map id), row V456 66 7 ([[.int .i64 3, .int .i64 1, .int .i64 (-1), .int .i64 50, .int .i64 9, .int .i64 0, .int .i64 3]].map id)]) := by
 refine Tri.en F32 rfl K32 rfl fun w0 => ?_
 refine J.co 2 rfl ?_
 refine O.l (Lo.bx rfl rfl) rfl ?_
 rintro _ _ ⟨g364, rfl, rfl⟩
 refine O.l (Lo.bx rfl rfl) rfl ?_
 rintro _ _ ⟨g365, rfl, rfl⟩
 refine O.l (Lo.al Y36 rfl) rfl ?_
 rintro _ _ ⟨g366, rfl, rfl⟩
 refine O.oo 4 rfl ?_
 refine O.q (Qt.lv 2 A29 rfl rfl rfl) rfl ?_
 refine O.p (Pu.makeFunc [.pointer (some ⟨g364, 0, none⟩), .pointer (some ⟨g365, 0, none⟩)] rfl) rfl ?_
 refine O.l (Lo.ca C76 (nb281 g228 g364 g365 g235 V230 V233 g240 g243 g246 b224 g225 g247 g244 b245 V358 V241 b242 g236 g237 g238 g239 g305) [3, 2, 1, 4, 5, 6, 7, 8, 9, 10, 11, 12, 13, 14, 15, 16, 17] rfl rfl .nil) rfl ?_
 rintro _ _ ⟨_, ⟨V458, V459, V456, rfl, rfl⟩, rfl⟩
 refine O.oo 2 rfl ?_
 refine O.one (Src.row 16 rfl) (fun hV462 => ?_)
 refine O.one (Src.row 17 rfl) (fun hV463 => ?_)
 refine O.l0 (Lo.st 19 Z36 rfl rfl rfl rfl rfl (by simp only [List.all_cons, List.all_nil, Bool.and_true, hV462, hV463] <;> rfl) rfl) ?_
 rintro _ _ rfl
 refine O.oc 2 rfl ?_
 exact J.rn [_, _] [0, 3, 4, 5, 6, 7, 8, 9, 10, 11, 12, 13, 14, 15, 16, 17, 18] rfl ⟨⟨_, _, 0, 0, _, rfl, Cel.var 19 rfl, rfl, Cut.agg _ A36 Z36 rfl rfl⟩, rfl, trivial⟩ rfl ⟨V458, V459, V456, rfl, rfl⟩

set_option maxRecDepth 100000 in
theorem nb283 (g228 : Nat) (g235 : Nat) (V230 : Value) (V233 : Value) (g240 : Nat) (g243 : Nat) (g246 : Nat) (b224 : Nat) (g225 : Nat) (g247 : Nat) : Tri Tryz.prog 39 #[.pointer (some ⟨g228, 0, none⟩)] [] [var g228 [.pointer (some ⟨g235, 0, none⟩), .int .i64 2, .int .i64 4, .int .i64 1000, .int .u64 1, V230, .int .i64 0, .int .i64 1, .int .i64 1, .int .i64 10, .int .i64 1, .int .i64 64, .int .i64 20, .int .i64 1, .int .i64 4, .int .i64 10, .int .i64 5, .int .i64 1, .int .i64 3, .int .i64 2, V233, .int .i64 0, .int .i64 0, .int .i64 3, .int .i64 0, .pointer (some ⟨g240, 0, none⟩), .pointer (some ⟨g243, 0, none⟩), .pointer (some ⟨g246, 0, none⟩), .map (some b224), .pointer (some ⟨g225, 0, none⟩), .pointer (some ⟨g247, 0, none⟩)] 90] (fun v L' => v = .bool true ∧ L' = [var g228 [.pointer (some ⟨g235, 0, none⟩), .int .i64 2, .int .i64 4, .int .i64 1000, .int .u64 1, V230, .int .i64 0, .int .i64 1, .int .i64 1, .int .i64 10, .int .i64 1, .int .i64 64, .int .i64 20, .int .i64 1, .int .i64 4, .int .i64 10, .int .i64 5, .int .i64 1, .int .i64 3, .int .i64 2, V233, .int .i64 0, .int .i64 0, .int .i64 3, .int .i64 0, .pointer (some ⟨g240, 0, none⟩), .pointer (some ⟨g243, 0, none⟩), .pointer (some ⟨g246, 0, none⟩), .map (some b224), .pointer (some ⟨g225, 0, none⟩), .pointer (some ⟨g247, 0, none⟩)] 90]) := by
 refine Tri.en F39 rfl K39 rfl fun w0 => ?_
 refine J.co 7 rfl ?_
 refine O.p (Pu.ptrNe N29 rfl) rfl ?_
 refine O.oo 4 rfl ?_
 refine O.gz (Qt.lv 0 A82 rfl rfl rfl) rfl rfl ?_
 refine O.gz (Pu.qt (Pu.ptrNe N82 rfl)) rfl rfl ?_
 refine O.oc 3 rfl ?_
 exact J.r1 [0] rfl rfl rfl ⟨rfl, rfl⟩

set_option maxRecDepth 100000 in
theorem nb284 (V233 : Value) (g247 : Nat) : Tri Tryz.prog 190 #[.agg #[.int .i64 1, .int .i64 1, .int .i64 10, .int .i64 1, .int .i64 64, .int .i64 20, .int .i64 1, .int .i64 4, .int .i64 10, .int .i64 5, .int .i64 1, .int .i64 3, .int .i64 2, V233], .agg #[.int .i64 1, .int .i64 2, .int .i64 0, .int .i64 50], .pointer (some ⟨g247, 0, none⟩)] [] [row V233 136 4 (([] : List (List Value)).map id)] (fun v L' => v = .agg #[.int .i64 0, Value.slice none 0 0] ∧ L' = [row V233 136 4 (([] : List (List Value)).map id)]) := by
 refine Tri.en F190 rfl K190 rfl fun w0 => ?_
 refine J.co 2 rfl ?_
 refine O.one (Src.row 0 rfl) (fun hV479 => ?_)
 refine O.l (Lo.bx rfl rfl) rfl ?_
 rintro _ _ ⟨g478, rfl, rfl⟩
 refine O.l (Lo.bx rfl rfl) rfl ?_
 rintro _ _ ⟨g480, rfl, rfl⟩
 refine O.l (Lo.al Y236 rfl) rfl ?_
 rintro _ _ ⟨g481, rfl, rfl⟩
 refine O.oo 3 rfl ?_
 refine O.l (Lo.al Y236 rfl) rfl ?_
 rintro _ _ ⟨g482, rfl, rfl⟩
 refine O.oo 5 rfl ?_
 refine O.q (Qt.lv 3 A54 rfl rfl rfl) rfl ?_
 refine O.q (Qt.lenM U54 rfl (Src.row 4 rfl)) rfl ?_
 refine O.oc 3 rfl ?_
 refine J.un ?_
 refine J.co 9 rfl ?_
 refine O.q (Qt.lva 0 A236 Z236 rfl rfl rfl) rfl ?_
 refine O.l0 (Lo.st 1 Z236 rfl rfl rfl rfl rfl rfl rfl) ?_
 rintro _ _ rfl
 refine O.oc 1 rfl ?_
 exact J.rn [_] [4] rfl ⟨⟨_, _, 0, 0, _, rfl, Cel.var 1 rfl, rfl, Cut.agg _ A236 Z236 rfl rfl⟩, trivial⟩ rfl ⟨rfl, rfl⟩

set_option maxRecDepth 100000 in
theorem nb285 (V486 : Value) : Tri Tryz.prog 278 #[V486] [] [row V486 3 1 (([] : List (List Value)).map id)] (fun v L' => v = V486 ∧ L' = [row V486 3 1 (([] : List (List Value)).map id)]) := by
 refine Tri.en F278 rfl K278 rfl fun w0 => ?_
 refine J.co 8 rfl ?_
 refine O.q (Qt.lenM U60 rfl (Src.row 0 rfl)) rfl ?_
 refine O.oc 8 rfl ?_
 exact J.r1 [0] rfl rfl rfl ⟨rfl, rfl⟩

set_option maxRecDepth 100000 in
theorem nb286 : Tri Tryz.prog 281 #[.int .i64 1] [] [] (fun v L' => v = .tuple #[.agg #[.int .i64 0, .int .i64 0, .int .i64 0, .int .i64 0, .int .i64 0, .int .i64 0, .int .i64 0, .int .i64 0, Value.slice none 0 0], .int .i64 1] ∧ L' = []) := by
 refine Tri.en F281 rfl K281 rfl fun w0 => ?_
 refine J.co 2 rfl ?_
 refine O.l (Lo.al Y68 rfl) rfl ?_
 rintro _ _ ⟨g494, rfl, rfl⟩
 refine O.oo 4 rfl ?_
 refine O.p (Pu.build [] [.int .i64 0, .int .i64 0, .int .i64 0, .int .i64 0, .int .i64 0, .int .i64 0, .int .i64 0, .int .i64 0, Value.slice none 0 0] #[(0, 7), (7, 1), (8, 1)] U68 Y68 (places68 N68) rfl (by kernel_rfl)) rfl ?_
 refine O.oo 1 rfl ?_
 refine O.l0 (Lo.st 0 Z68 rfl rfl rfl rfl rfl rfl rfl) ?_
 rintro _ _ rfl
 refine O.oc 2 rfl ?_
 exact J.rn [_, _] [] rfl ⟨⟨_, _, 0, 0, _, rfl, Cel.var 0 rfl, rfl, Cut.agg _ A68 Z68 rfl rfl⟩, rfl, trivial⟩ rfl ⟨rfl, rfl⟩

set_option maxRecDepth 100000 in
theorem nb287 (V486 : Value) : Tri Tryz.prog 277 #[.agg #[.int .i64 1, .int .i64 2, .int .i64 (-1), .int .i64 50, .int .i64 9, .int .i64 0, .int .i64 1, .int .i64 1, Value.slice none 0 0], V486] [] [row V486 3 1 (([] : List (List Value)).map id)] (fun v L' => v = .tuple #[.agg #[.int .i64 0, .int .i64 0, .int .i64 0, .int .i64 0, .int .i64 0, .int .i64 0, .int .i64 0, .int .i64 0, Value.slice none 0 0], .int .i64 1] ∧ L' = [row V486 3 1 (([] : List (List Value)).map id)]) := by
 refine Tri.en F277 rfl K277 rfl fun w0 => ?_
 refine J.co 2 rfl ?_
 refine O.l (Lo.bx rfl rfl) rfl ?_
 rintro _ _ ⟨g492, rfl, rfl⟩
 refine O.l (Lo.al Y68 rfl) rfl ?_
 rintro _ _ ⟨g493, rfl, rfl⟩
 refine O.oo 6 rfl ?_
 refine O.q (Qt.lenM U60 rfl (Src.row 2 rfl)) rfl ?_
 refine O.oo 5 rfl ?_
 refine O.l (Lo.ca C281 nb286 [] rfl rfl .nil) rfl ?_
 rintro _ _ ⟨_, ⟨rfl, rfl⟩, rfl⟩
 refine O.oo 2 rfl ?_
 refine O.l0 (Lo.st 0 Z68 rfl rfl rfl rfl rfl rfl rfl) ?_
 rintro _ _ rfl
 refine O.oc 2 rfl ?_
 exact J.rn [_, _] [2] rfl ⟨⟨_, _, 0, 0, _, rfl, Cel.var 0 rfl, rfl, Cut.agg _ A68 Z68 rfl rfl⟩, rfl, trivial⟩ rfl ⟨rfl, rfl⟩

set_option maxRecDepth 100000 in
theorem nb288 (g483 : Nat) (g487 : Nat) (V486 : Value) : Tri Tryz.prog 276 #[.pointer (some ⟨g483, 0, none⟩), .pointer (some ⟨g487, 0, none⟩)] [] [var g483 [.int .i64 1, .int .i64 2, .int .i64 (-1), .int .i64 50, .int .i64 9, .int .i64 0, .int .i64 1, .int .i64 1, Value.slice none 0 0] 68, var g487 [V486] 60, row V486 3 1 (([] : List (List Value)).map id)] (fun v L' => v = .tuple #[.agg #[.int .i64 0, .int .i64 0, .int .i64 0, .int .i64 0, .int .i64 0, .int .i64 0, .int .i64 0, .int .i64 0, Value.slice none 0 0], .int .i64 1] ∧ L' = [var g483 [.int .i64 1, .int .i64 2, .int .i64 (-1), .int .i64 50, .int .i64 9, .int .i64 0, .int .i64 1, .int .i64 1, Value.slice none 0 0] 68, var g487 [V486] 60, row V486 3 1 (([] : List (List Value)).map id)]) := by
 refine Tri.en F276 rfl K276 rfl fun w0 => ?_
 refine J.co 2 rfl ?_
 refine O.l (Lo.al Y68 rfl) rfl ?_
 rintro _ _ ⟨g491, rfl, rfl⟩
 refine O.oc 3 rfl ?_
 refine J.dm [(0, false), (1, false), (2, false), (3, true), (4, true), (5, false), (6, false), (7, true), (8, false)] [1, 2] Tryz.mixed (by kernel_rfl) rfl ?_
 refine Mx.q rfl (Qt.lva 0 A68 Z68 rfl rfl rfl) rfl ?_
 refine Mx.p rfl (Pu.build [(0, .agg #[.int .i64 1, .int .i64 2, .int .i64 (-1), .int .i64 50, .int .i64 9, .int .i64 0, .int .i64 1, .int .i64 1, Value.slice none 0 0])] [.int .i64 1, .int .i64 2, .int .i64 (-1), .int .i64 50, .int .i64 9, .int .i64 0, .int .i64 1, .int .i64 1, Value.slice none 0 0] #[(0, 9)] U345 Y345 (places345 N345) rfl (by kernel_rfl)) rfl ?_
 refine Mx.q rfl (Qt.lv 1 A60 rfl rfl rfl) rfl ?_
 refine Mx.l rfl (Lo.ca C278 (nb285 V486) [3] rfl rfl .nil) rfl ?_
 rintro V486 _ ⟨_, ⟨rfl, rfl⟩, rfl⟩
 refine MxK.gp [2, 3] [0, 1] rfl rfl ?_
 refine Mx.l rfl (Lo.ca C277 (nb287 V486) [0] rfl rfl .nil) rfl ?_
 rintro _ _ ⟨_, ⟨rfl, rfl⟩, rfl⟩
 refine MxK.al [2, 3] rfl (by kernel_rfl) ?_
 refine Mx.r 2 rfl ?_
 refine Mx.l0 rfl (Lo.st 1 Z68 rfl rfl rfl rfl rfl rfl rfl) ?_
 rintro _ _ rfl
 refine MxK.al [2, 3] rfl (by kernel_rfl) ?_
 refine Mx.r 1 rfl ?_
 refine Mx.nil ?_
 exact J.rn [_, _] [2, 3, 0] rfl ⟨⟨_, _, 0, 0, _, rfl, Cel.var 1 rfl, rfl, Cut.agg _ A68 Z68 rfl rfl⟩, rfl, trivial⟩ rfl ⟨rfl, rfl⟩

set_option maxRecDepth 100000 in
theorem nb289 (g483 : Nat) (g487 : Nat) (V486 : Value) : Tri Tryz.prog 275 #[.agg #[.int .i64 1, .int .i64 2, .int .i64 (-1), .int .i64 50, .int .i64 9, .int .i64 0, .int .i64 1, .int .i64 1, Value.slice none 0 0], .func (.func 276) #[] #[.pointer (some ⟨g483, 0, none⟩), .pointer (some ⟨g487, 0, none⟩)]] [] [var g483 [.int .i64 1, .int .i64 2, .int .i64 (-1), .int .i64 50, .int .i64 9, .int .i64 0, .int .i64 1, .int .i64 1, Value.slice none 0 0] 68, var g487 [V486] 60, row V486 3 1 (([] : List (List Value)).map id)] (fun v L' => v = .tuple #[.agg #[.int .i64 0, .int .i64 0, .int .i64 0, .int .i64 0, .int .i64 0, .int .i64 0, .int .i64 0, .int .i64 0, Value.slice none 0 0], .int .i64 1, .int .i64 0] ∧ L' = [var g483 [.int .i64 1, .int .i64 2, .int .i64 (-1), .int .i64 50, .int .i64 9, .int .i64 0, .int .i64 1, .int .i64 1, Value.slice none 0 0] 68, var g487 [V486] 60, row V486 3 1 (([] : List (List Value)).map id)]) := by
 refine Tri.en F275 rfl K275 rfl fun w0 => ?_
 refine J.co 2 rfl ?_
 refine O.l (Lo.bx rfl rfl) rfl ?_
 rintro _ _ ⟨g489, rfl, rfl⟩
 refine O.l (Lo.al Y68 rfl) rfl ?_
 rintro _ _ ⟨g490, rfl, rfl⟩
 refine O.oo 7 rfl ?_
 refine O.q (Qt.lv 1 A3 rfl rfl rfl) rfl ?_
 refine O.oo 7 rfl ?_
 refine O.l (Lo.cv C276 rfl rfl (nb288 g483 g487 V486) [2, 3, 4] rfl .nil) rfl ?_
 rintro _ _ ⟨_, ⟨rfl, rfl⟩, rfl⟩
 refine O.oo 3 rfl ?_
 refine O.l (Lo.al Y68 rfl) rfl ?_
 rintro _ _ ⟨g495, rfl, rfl⟩
 refine O.l0 (Lo.st 0 Z68 rfl rfl rfl rfl rfl rfl rfl) ?_
 rintro _ _ rfl
 refine O.oo 4 rfl ?_
 refine O.q (Qt.lva 0 A68 Z68 rfl rfl rfl) rfl ?_
 refine O.oo 1 rfl ?_
 refine O.l0 (Lo.st 4 Z68 rfl rfl rfl rfl rfl rfl rfl) ?_
 rintro _ _ rfl
 refine O.oc 3 rfl ?_
 exact J.rn [_, _, _] [1, 2, 3] rfl ⟨⟨_, _, 0, 0, _, rfl, Cel.var 4 rfl, rfl, Cut.agg _ A68 Z68 rfl rfl⟩, rfl, rfl, trivial⟩ rfl ⟨rfl, rfl⟩

set_option maxRecDepth 100000 in
theorem nb290 : Tri Tryz.prog 193 #[.agg #[.int .i64 1, .int .i64 2, .int .i64 (-1), .int .i64 50, .int .i64 9, .int .i64 0, .int .i64 1, .int .i64 1, Value.slice none 0 0], Value.slice none 0 0] [] [] (fun v L' => v = .tuple #[.agg #[.int .i64 0, .int .i64 0, .int .i64 0, .int .i64 0, .int .i64 0, .int .i64 0, .int .i64 0, .int .i64 0, Value.slice none 0 0], .int .i64 1, .int .i64 0] ∧ L' = []) := by
 refine Tri.en F193 rfl K193 rfl fun w0 => ?_
 refine J.co 2 rfl ?_
 refine O.l (Lo.bx rfl rfl) rfl ?_
 rintro _ _ ⟨g483, rfl, rfl⟩
 refine O.l (Lo.al Y68 rfl) rfl ?_
 rintro _ _ ⟨g484, rfl, rfl⟩
 refine O.oo 5 rfl ?_
 refine O.l (Lo.buildE id U60 Z3) rfl ?_
 rintro V485 _ rfl
 refine O.oo 1 rfl ?_
 refine O.nr 3 1 (([] : List (List Value)).map id) rfl ?_
 refine O.l (Lo.am 1 N60 info3 rfl rfl rfl rfl rfl (Src.row 0 rfl) (id_one rfl) (Nat.le_of_ble_eq_true rfl) (Nat.le_of_ble_eq_true rfl)) rfl ?_
 rintro V486 _ rfl
 refine O.l (Lo.al Y60 rfl) rfl ?_
 rintro _ _ ⟨g487, rfl, rfl⟩
 refine O.one (Src.row 2 rfl) (fun hV488 => ?_)
 refine O.l0 (Lo.so 0 Z60 hV488 rfl rfl rfl rfl) ?_
 rintro _ _ rfl
 refine O.oo 3 rfl ?_
 refine O.q (Qt.lv 0 A60 rfl rfl rfl) rfl ?_
 refine O.l (Lo.ca C274 (nd_Sort0 V486) [2] rfl rfl .nil) rfl ?_
 rintro _ _ ⟨_, ⟨rfl, rfl⟩, rfl⟩
 refine O.oo 3 rfl ?_
 refine O.q (Qt.lva 4 A68 Z68 rfl rfl rfl) rfl ?_
 refine O.p (Pu.makeFunc [.pointer (some ⟨g483, 0, none⟩), .pointer (some ⟨g487, 0, none⟩)] rfl) rfl ?_
 refine O.l (Lo.ca C275 (nb289 g483 g487 V486) [4, 1, 0] rfl rfl .nil) rfl ?_
 rintro _ _ ⟨_, ⟨rfl, rfl⟩, rfl⟩
 refine O.oo 3 rfl ?_
 refine O.l0 (Lo.st 4 Z68 rfl rfl rfl rfl rfl rfl rfl) ?_
 rintro _ _ rfl
 refine O.oc 3 rfl ?_
 exact J.rn [_, _, _] [] rfl ⟨⟨_, _, 0, 0, _, rfl, Cel.var 4 rfl, rfl, Cut.agg _ A68 Z68 rfl rfl⟩, rfl, rfl, trivial⟩ rfl ⟨rfl, rfl⟩

set_option maxRecDepth 100000 in
theorem nb291 (g246 : Nat) (g305 : Nat) : Tri Tryz.prog 267 #[.pointer (some ⟨g246, 0, none⟩), .int .i64 1] [] [var g246 (.int .i64 1 :: .pointer (some ⟨g305, 0, none⟩) :: (rp 15 (Value.pointer none) [])) 210, var g305 [.int .i64 1, .int .i64 2, .int .i64 (-1), .int .i64 50, .int .i64 9, .int .i64 0, .int .i64 1] 66] (fun v L' => v = .tuple #[.int .i64 0, .bool true] ∧ L' = [var g246 (.int .i64 1 :: .pointer (some ⟨g305, 0, none⟩) :: (rp 15 (Value.pointer none) [])) 210, var g305 [.int .i64 1, .int .i64 2, .int .i64 (-1), .int .i64 50, .int .i64 9, .int .i64 0, .int .i64 1] 66]) := by
 refine Tri.en F267 rfl K267 rfl fun w0 => ?_
 refine J.co 9 rfl ?_
 refine O.l (Lo.ca C116 (nb170 g246 g305) [0] rfl rfl .nil) rfl ?_
 rintro _ _ ⟨_, ⟨rfl, rfl⟩, rfl⟩
 refine O.oc 3 rfl ?_
 refine J.un ?_
 refine J.co 20 rfl ?_
 refine O.p (Pu.indexAddrK 1 U208 Z207 rfl rfl (by decide) (by decide) rfl) rfl ?_
 refine O.q (Qt.lv 0 A207 rfl rfl rfl) rfl ?_
 refine O.oo 5 rfl ?_
 refine O.p (Pu.ptrNe N207 rfl) rfl ?_
 refine O.oo 4 rfl ?_
 refine O.gz (Qt.lv 1 A3 rfl rfl rfl) rfl rfl ?_
 refine O.oc 11 rfl ?_
 exact J.rn [_, _] [0, 1] rfl ⟨rfl, rfl, trivial⟩ rfl ⟨rfl, rfl⟩

set_option maxRecDepth 100000 in
theorem nb292 (g246 : Nat) (g305 : Nat) : Tri Tryz.prog 272 #[.pointer (some ⟨g246, 0, none⟩), .int .i64 1] [] [var g246 (.int .i64 1 :: .pointer (some ⟨g305, 0, none⟩) :: (rp 15 (Value.pointer none) [])) 210, var g305 [.int .i64 1, .int .i64 2, .int .i64 (-1), .int .i64 50, .int .i64 9, .int .i64 0, .int .i64 1] 66] (fun v L' => v = .tuple #[.agg #[.int .i64 1, .int .i64 2, .int .i64 (-1), .int .i64 50, .int .i64 9, .int .i64 0, .int .i64 1], .bool true] ∧ L' = [var g246 (.int .i64 1 :: (rp 16 (Value.pointer none) [])) 210, var g305 [.int .i64 1, .int .i64 2, .int .i64 (-1), .int .i64 50, .int .i64 9, .int .i64 0, .int .i64 1] 66]) := by
 refine Tri.en F272 rfl K272 rfl fun w0 => ?_
 refine J.co 2 rfl ?_
 refine O.l (Lo.al Y66 rfl) rfl ?_
 rintro _ _ ⟨g497, rfl, rfl⟩
 refine O.oo 6 rfl ?_
 refine O.l (Lo.ca C267 (nb291 g246 g305) [1, 2] rfl rfl .nil) rfl ?_
 rintro _ _ ⟨_, ⟨rfl, rfl⟩, rfl⟩
 refine O.oo 20 rfl ?_
 refine O.p (Pu.indexAddrK 1 U208 Z207 rfl rfl (by decide) (by decide) rfl) rfl ?_
 refine O.q (Qt.lv 0 A207 rfl rfl rfl) rfl ?_
 refine O.oo 1 rfl ?_
 refine O.q (Qt.lva 1 A66 Z66 rfl rfl rfl) rfl ?_
 refine O.l (Lo.al Y66 rfl) rfl ?_
 rintro _ _ ⟨g498, rfl, rfl⟩
 refine O.l0 (Lo.st 0 Z66 rfl rfl rfl rfl rfl rfl rfl) ?_
 rintro _ _ rfl
 refine O.oo 7 rfl ?_
 refine O.p (Pu.indexAddrK 1 U208 Z207 rfl rfl (by decide) (by decide) rfl) rfl ?_
 refine O.l0 (Lo.st 1 Z207 rfl rfl rfl rfl rfl rfl rfl) ?_
 rintro _ _ rfl
 refine O.oo 3 rfl ?_
 refine O.q (Qt.lva 0 A66 Z66 rfl rfl rfl) rfl ?_
 refine O.l0 (Lo.st 3 Z66 rfl rfl rfl rfl rfl rfl rfl) ?_
 rintro _ _ rfl
 refine O.oc 2 rfl ?_
 exact J.rn [_, _] [1, 2] rfl ⟨⟨_, _, 0, 0, _, rfl, Cel.var 3 rfl, rfl, Cut.agg _ A66 Z66 rfl rfl⟩, rfl, trivial⟩ rfl ⟨rfl, rfl⟩

set_option maxRecDepth 100000 in
theorem nb293 (g225 : Nat) (b227 : Nat) (b226 : Nat) : Tri Tryz.prog 273 #[.pointer (some ⟨g225, 0, none⟩), .int .i64 1] [] [mi b227 vO ([] : List (Int × (Nat × List (Int × Int)))), var g225 [.map (some b226), .map (some b227)] 195] (fun v L' => ∃ (V500 : Value), v = V500 ∧ L' = [mi b227 vO ([] : List (Int × (Nat × List (Int × Int)))), var g225 [.map (some b226), .map (some b227)] 195, row V500 3 1 (([] : List (List Value)).map id)]) := by
 refine Tri.en F273 rfl K273 rfl fun w0 => ?_
 refine J.co 8 rfl ?_
 refine O.l (Lo.ca C327 (nd_OfNo g225 b226 b227 1) [] rfl rfl (.own 1 rfl rfl (.own 0 rfl rfl .nil))) rfl ?_
 rintro V500 _ ⟨_, ⟨_, rfl, rfl⟩, rfl⟩
 refine O.oo 6 rfl ?_
 refine O.q (Qt.lenM U60 rfl (Src.row 0 rfl)) rfl ?_
 refine O.oc 3 rfl ?_
 refine J.un ?_
 refine J.cc 12 rfl ?_
 exact J.r1 [1, 2, 0] rfl rfl rfl ⟨V500, rfl, rfl⟩

set_option maxRecDepth 100000 in
theorem nb294 (g473 : Nat) (g228 : Nat) (g235 : Nat) (V230 : Value) (V233 : Value) (g240 : Nat) (g243 : Nat) (g246 : Nat) (b224 : Nat) (g225 : Nat) (g247 : Nat) : Tri Tryz.prog 80 #[.pointer (some ⟨g473, 0, none⟩), .int .i64 4, .int .i64 1, .int .i64 1, .int .i64 2, .int .i64 0] [] [var g473 [.pointer (some ⟨g228, 0, none⟩), Value.slice none 0 0, Value.slice none 0 0] 261, var g228 [.pointer (some ⟨g235, 0, none⟩), .int .i64 2, .int .i64 4, .int .i64 1000, .int .u64 1, V230, .int .i64 0, .int .i64 1, .int .i64 1, .int .i64 10, .int .i64 1, .int .i64 64, .int .i64 20, .int .i64 1, .int .i64 4, .int .i64 10, .int .i64 5, .int .i64 1, .int .i64 3, .int .i64 2, V233, .int .i64 0, .int .i64 0, .int .i64 3, .int .i64 0, .pointer (some ⟨g240, 0, none⟩), .pointer (some ⟨g243, 0, none⟩), .pointer (some ⟨g246, 0, none⟩), .map (some b224), .pointer (some ⟨g225, 0, none⟩), .pointer (some ⟨g247, 0, none⟩)] 90] (fun v L' => ∃ (V503 : Value), v = .tuple #[] ∧ L' = [var g473 [.pointer (some ⟨g228, 0, none⟩), V503, Value.slice none 0 0] 261, var g228 [.pointer (some ⟨g235, 0, none⟩), .int .i64 2, .int .i64 4, .int .i64 1000, .int .u64 1, V230, .int .i64 0, .int .i64 1, .int .i64 1, .int .i64 10, .int .i64 1, .int .i64 64, .int .i64 20, .int .i64 1, .int .i64 4, .int .i64 10, .int .i64 5, .int .i64 1, .int .i64 3, .int .i64 2, V233, .int .i64 0, .int .i64 0, .int .i64 3, .int .i64 0, .pointer (some ⟨g240, 0, none⟩), .pointer (some ⟨g243, 0, none⟩), .pointer (some ⟨g246, 0, none⟩), .map (some b224), .pointer (some ⟨g225, 0, none⟩), .pointer (some ⟨g247, 0, none⟩)] 90, row V503 51 7 ([[.int .i64 4, .int .i64 0, .int .i64 0, .int .i64 1, .int .i64 1, .int .i64 2, .int .i64 0]].map id)]) := by
 refine Tri.en F80 rfl K80 rfl fun w0 => ?_
 refine J.dm [(0, false), (1, false), (2, false), (3, false), (4, false), (5, false), (6, false), (7, false), (8, false), (9, false), (10, false), (11, false), (12, false), (13, false), (14, false), (15, false), (16, false), (17, false), (18, false), (19, false), (20, false), (21, false), (22, false), (23, false), (24, false), (25, false), (26, true), (27, true), (28, false), (29, false), (30, false), (31, true)] [0, 1] Tryz.mixed (by kernel_rfl) rfl ?_
 refine Mx.r 5 rfl ?_
 refine Mx.q rfl (Qt.lv 0 A33 rfl rfl rfl) rfl ?_
 refine Mx.r 4 rfl ?_
 refine Mx.q rfl (Qt.lv 0 A29 rfl rfl rfl) rfl ?_
 refine Mx.r 2 rfl ?_
 refine Mx.q rfl (Qt.lv 1 A3 rfl rfl rfl) rfl ?_
 refine Mx.r 3 rfl ?_
 refine Mx.q rfl (Qt.lv 0 A29 rfl rfl rfl) rfl ?_
 refine Mx.r 2 rfl ?_
 refine Mx.q rfl (Qt.lv 1 A3 rfl rfl rfl) rfl ?_
 refine Mx.r 4 rfl ?_
 refine Mx.p rfl (Pu.build [(0, .int .i64 4), (1, .int .i64 0), (2, .int .i64 0), (3, .int .i64 1), (4, .int .i64 1), (5, .int .i64 2), (6, .int .i64 0)] [.int .i64 4, .int .i64 0, .int .i64 0, .int .i64 1, .int .i64 1, .int .i64 2, .int .i64 0] #[(0, 1), (1, 1), (2, 1), (3, 1), (4, 1), (5, 1), (6, 1)] U51 Y51 (places51 N51) rfl (by kernel_rfl)) rfl ?_
 refine Mx.l rfl (Lo.bm id [[.int .i64 4, .int .i64 0, .int .i64 0, .int .i64 1, .int .i64 1, .int .i64 2, .int .i64 0]] U33 Z51 Y51 rfl rfl rfl (by kernel_rfl) rfl rfl) rfl ?_
 rintro V502 _ rfl
 refine MxK.gp [1, 2] [0, 1] rfl rfl ?_
 refine Mx.nr 51 7 (([] : List (List Value)).map id) rfl rfl rfl ?_
 refine Mx.l rfl (Lo.am 0 N33 info51 rfl rfl rfl rfl rfl (Src.row 1 rfl) (id_one rfl) (Nat.le_of_ble_eq_true rfl) (Nat.le_of_ble_eq_true rfl)) rfl ?_
 rintro V503 _ rfl
 refine MxK.gp [2, 3] [0, 1] rfl rfl ?_
 refine Mx.r 3 rfl ?_
 refine Mx.one rfl (fun _ h => by cases h <;> rfl) (Src.row 0 rfl) (fun hV504 => ?_)
 refine Mx.l0 rfl (Lo.so 2 Z33 hV504 rfl rfl rfl rfl) ?_
 rintro _ _ rfl
 refine MxK.al [2, 3] rfl (by kernel_rfl) ?_
 refine Mx.nil ?_
 exact J.dn [] [2, 3, 0] rfl trivial rfl ⟨V503, rfl, rfl⟩

set_option maxRecDepth 100000 in
theorem nb295 : Tri Tryz.prog 181 #[.agg #[.int .i64 1, .int .i64 (-1), .int .i64 0, .int .i64 0, .int .i64 0, .int .i64 0], .int .i64 1, .int .i64 8, .int .i64 1, .int .i64 1] [] [] (fun v L' => v = .agg #[.int .i64 1, .int .i64 0, .int .i64 (-1), .int .i64 1, .int .i64 8, .int .i64 1, .int .i64 1] ∧ L' = []) := by
 refine Tri.en F181 rfl K181 rfl fun w0 => ?_
 refine J.co 2 rfl ?_
 refine O.l (Lo.bx rfl rfl) rfl ?_
 rintro _ _ ⟨g506, rfl, rfl⟩
 refine O.l (Lo.al Y43 rfl) rfl ?_
 rintro _ _ ⟨g507, rfl, rfl⟩
 refine O.oo 4 rfl ?_
 refine O.q (Qt.lv 1 A3 rfl rfl rfl) rfl ?_
 refine O.oo 1 rfl ?_
 refine O.q (Qt.lv 1 A3 rfl rfl rfl) rfl ?_
 refine O.oo 1 rfl ?_
 refine O.q (Qt.lv 1 A3 rfl rfl rfl) rfl ?_
 refine O.oo 4 rfl ?_
 refine O.p (Pu.build [(0, .int .i64 1), (1, .int .i64 0), (2, .int .i64 (-1)), (3, .int .i64 1), (4, .int .i64 8), (5, .int .i64 1), (6, .int .i64 1)] [.int .i64 1, .int .i64 0, .int .i64 (-1), .int .i64 1, .int .i64 8, .int .i64 1, .int .i64 1] #[(0, 1), (1, 1), (2, 1), (3, 1), (4, 1), (5, 1), (6, 1)] U43 Y43 (places43 N43) rfl (by kernel_rfl)) rfl ?_
 refine O.l0 (Lo.st 0 Z43 rfl rfl rfl rfl rfl rfl rfl) ?_
 rintro _ _ rfl
 refine O.oc 1 rfl ?_
 exact J.rn [_] [] rfl ⟨⟨_, _, 0, 0, _, rfl, Cel.var 0 rfl, rfl, Cut.agg _ A43 Z43 rfl rfl⟩, trivial⟩ rfl ⟨rfl, rfl⟩

end Go.Proofs.YtohjlkjhpibkmaaGreatDoor
