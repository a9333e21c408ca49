/-
  Runs that are known throughout, printed by a program of mine.
-/
import Derived.KernelRfl
import Derived.Test.YtohjlkjhpibkmaaGreatDoorFo
import Derived.Test.YtohjlkjhpibkmaaGreatDoorLkG
import Derived.Test.YtohjlkjhpibkmaaGreatDoorNumsT
import Derived.Test.YtohjlkjhpibkmaaGreatDoorVXA
import Derived.Test.YtohjlkjhpibkmaaGreatDoorNB1
namespace Go.Proofs.YtohjlkjhpibkmaaGreatDoor
open Go Go.LK
set_option linter.unusedSimpArgs false
set_option linter.unusedVariables false

set_option maxRecDepth 100000 in
theorem nb62 (V163 : Value) : Tri Tryz.prog 75 #[V163] [] [row V163 3 1 ([[.int .i64 1], [.int .i64 4], [.int .i64 10], [.int .i64 5], [.int .i64 1], [.int .i64 3], [.int .i64 2]].map id)] (fun v L' => v = .agg #[.int .i64 1, .int .i64 4, .int .i64 10, .int .i64 5, .int .i64 1, .int .i64 3, .int .i64 2] ∧ L' = [row V163 3 1 ([[.int .i64 1], [.int .i64 4], [.int .i64 10], [.int .i64 5], [.int .i64 1], [.int .i64 3], [.int .i64 2]].map id)]) := by
 refine Tri.en F75 rfl K75 rfl fun w0 => ?_
 refine J.co 2 rfl ?_
 refine O.l (Lo.al Y45 rfl) rfl ?_
 rintro _ _ ⟨g164, rfl, rfl⟩
 refine O.oc 2 rfl ?_
 refine J.drawTail 22 Tryz.mixed (by kernel_rfl) ?_
 refine S.r 1 rfl ?_
 refine S.q (Qt.ix U60 Z3 rfl (Src.row 1 rfl) (j := 0) (a := [.int .i64 1]) rfl rfl rfl) rfl ?_
 refine S.q (Qt.le A3 (Src.row 1 rfl) (j := 0) (a := [.int .i64 1]) rfl 0 rfl (by omega) rfl) rfl ?_
 refine S.r 1 rfl ?_
 refine S.q (Qt.ix U60 Z3 rfl (Src.row 1 rfl) (j := 1) (a := [.int .i64 4]) rfl rfl rfl) rfl ?_
 refine S.q (Qt.le A3 (Src.row 1 rfl) (j := 1) (a := [.int .i64 4]) rfl 0 rfl (by omega) rfl) rfl ?_
 refine S.r 1 rfl ?_
 refine S.q (Qt.ix U60 Z3 rfl (Src.row 1 rfl) (j := 2) (a := [.int .i64 10]) rfl rfl rfl) rfl ?_
 refine S.q (Qt.le A3 (Src.row 1 rfl) (j := 2) (a := [.int .i64 10]) rfl 0 rfl (by omega) rfl) rfl ?_
 refine S.r 1 rfl ?_
 refine S.q (Qt.ix U60 Z3 rfl (Src.row 1 rfl) (j := 3) (a := [.int .i64 5]) rfl rfl rfl) rfl ?_
 refine S.q (Qt.le A3 (Src.row 1 rfl) (j := 3) (a := [.int .i64 5]) rfl 0 rfl (by omega) rfl) rfl ?_
 refine S.r 1 rfl ?_
 refine S.q (Qt.ix U60 Z3 rfl (Src.row 1 rfl) (j := 4) (a := [.int .i64 1]) rfl rfl rfl) rfl ?_
 refine S.q (Qt.le A3 (Src.row 1 rfl) (j := 4) (a := [.int .i64 1]) rfl 0 rfl (by omega) rfl) rfl ?_
 refine S.r 1 rfl ?_
 refine S.q (Qt.ix U60 Z3 rfl (Src.row 1 rfl) (j := 5) (a := [.int .i64 3]) rfl rfl rfl) rfl ?_
 refine S.q (Qt.le A3 (Src.row 1 rfl) (j := 5) (a := [.int .i64 3]) rfl 0 rfl (by omega) rfl) rfl ?_
 refine S.r 1 rfl ?_
 refine S.q (Qt.ix U60 Z3 rfl (Src.row 1 rfl) (j := 6) (a := [.int .i64 2]) rfl rfl rfl) rfl ?_
 refine S.q (Qt.le A3 (Src.row 1 rfl) (j := 6) (a := [.int .i64 2]) rfl 0 rfl (by omega) rfl) rfl ?_
 refine S.p (Pu.build [(0, .int .i64 1), (1, .int .i64 4), (2, .int .i64 10), (3, .int .i64 5), (4, .int .i64 1), (5, .int .i64 3), (6, .int .i64 2)] [.int .i64 1, .int .i64 4, .int .i64 10, .int .i64 5, .int .i64 1, .int .i64 3, .int .i64 2] #[(0, 1), (1, 1), (2, 1), (3, 1), (4, 1), (5, 1), (6, 1)] U45 Y45 (places45 N45) rfl (by kernel_rfl)) rfl ?_
 refine S.endO ?_
 refine O.l0 (Lo.st 0 Z45 rfl rfl rfl rfl rfl rfl rfl) ?_
 rintro _ _ rfl
 refine O.oc 1 rfl ?_
 exact J.rn [_] [1] rfl ⟨⟨_, _, 0, 0, _, rfl, Cel.var 0 rfl, rfl, Cut.agg _ A45 Z45 rfl rfl⟩, trivial⟩ rfl ⟨rfl, rfl⟩

set_option maxRecDepth 100000 in
theorem nb63 : Tri Tryz.prog 31 #[.int .i64 1] [] [] (fun v L' => ∃ (V167 : Value), v = .agg #[.int .i64 2, .int .i64 4, .int .i64 1000, .int .u64 1, V167] ∧ L' = [row V167 56 14 ([[.int .i64 1, .int .i64 4, .int .i64 10, .int .i64 1, .int .i64 64, .int .i64 20, .int .i64 1, .int .i64 4, .int .i64 10, .int .i64 5, .int .i64 1, .int .i64 3, .int .i64 2, Value.slice none 0 0]].map id)]) := by
 refine Tri.en F31 rfl K31 rfl fun w0 => ?_
 refine J.co 2 rfl ?_
 refine O.l (Lo.al Y25 rfl) rfl ?_
 rintro _ _ ⟨g161, rfl, rfl⟩
 refine O.oo 3 rfl ?_
 refine O.p (Pu.build [(0, .int .i64 2), (1, .int .i64 4), (2, .int .i64 1000), (3, .int .u64 1)] [.int .i64 2, .int .i64 4, .int .i64 1000, .int .u64 1, Value.slice none 0 0] #[(0, 1), (1, 1), (2, 1), (3, 1), (4, 1)] U25 Y25 (places25 N25) rfl (by kernel_rfl)) rfl ?_
 refine O.l (Lo.al Y25 rfl) rfl ?_
 rintro _ _ ⟨g162, rfl, rfl⟩
 refine O.l0 (Lo.st 0 Z25 rfl rfl rfl rfl rfl rfl rfl) ?_
 rintro _ _ rfl
 refine O.oc 7 rfl ?_
 refine J.un ?_
 refine J.co 13 rfl ?_
 refine O.l (Lo.bm id [[.int .i64 1], [.int .i64 4], [.int .i64 10], [.int .i64 5], [.int .i64 1], [.int .i64 3], [.int .i64 2]] U60 Z3 Y3 rfl rfl rfl (by kernel_rfl) rfl rfl) rfl ?_
 rintro V163 _ rfl
 refine O.l (Lo.ca C75 (nb62 V163) [0] rfl rfl .nil) rfl ?_
 rintro _ _ ⟨_, ⟨rfl, rfl⟩, rfl⟩
 refine O.p (Pu.build [(0, .int .i64 1), (1, .int .i64 4), (2, .int .i64 10), (3, .int .i64 1), (4, .int .i64 64), (5, .int .i64 20), (6, .agg #[.int .i64 1, .int .i64 4, .int .i64 10, .int .i64 5, .int .i64 1, .int .i64 3, .int .i64 2])] [.int .i64 1, .int .i64 4, .int .i64 10, .int .i64 1, .int .i64 64, .int .i64 20, .int .i64 1, .int .i64 4, .int .i64 10, .int .i64 5, .int .i64 1, .int .i64 3, .int .i64 2, Value.slice none 0 0] #[(0, 1), (1, 1), (2, 1), (3, 1), (4, 1), (5, 1), (6, 7), (13, 1)] U56 Y56 (places56 N56) rfl (by kernel_rfl)) rfl ?_
 refine O.l (Lo.al Y56 rfl) rfl ?_
 rintro _ _ ⟨g165, rfl, rfl⟩
 refine O.l0 (Lo.st 0 Z56 rfl rfl rfl rfl rfl rfl rfl) ?_
 rintro _ _ rfl
 refine O.oo 6 rfl ?_
 refine O.p (Pu.sub' rfl rfl (by decide)) rfl ?_
 refine O.oo 6 rfl ?_
 refine O.q (Qt.lv 2 A23 rfl rfl rfl) rfl ?_
 refine O.q (Qt.lva 0 A56 Z56 rfl rfl rfl) rfl ?_
 refine O.l (Lo.bm id [[.int .i64 1, .int .i64 4, .int .i64 10, .int .i64 1, .int .i64 64, .int .i64 20, .int .i64 1, .int .i64 4, .int .i64 10, .int .i64 5, .int .i64 1, .int .i64 3, .int .i64 2, Value.slice none 0 0]] U23 Z56 Y56 rfl rfl rfl (by kernel_rfl) rfl rfl) rfl ?_
 rintro V166 _ rfl
 refine O.nr 56 14 (([] : List (List Value)).map id) rfl ?_
 refine O.l (Lo.am 0 N23 info56 rfl rfl rfl rfl rfl (Src.row 1 rfl) (id_one rfl) (Nat.le_of_ble_eq_true rfl) (Nat.le_of_ble_eq_true rfl)) rfl ?_
 rintro V167 _ rfl
 refine O.oo 1 rfl ?_
 refine O.one (Src.row 0 rfl) (fun hV168 => ?_)
 refine O.l0 (Lo.so 4 Z23 hV168 rfl rfl rfl rfl) ?_
 rintro _ _ rfl
 refine O.oo 4 rfl ?_
 refine O.p (Pu.add' rfl rfl (by decide)) rfl ?_
 refine O.oc 2 rfl ?_
 refine J.again ?_
 refine J.co 11 rfl ?_
 refine O.q (Qt.lva 4 A25 Z25 rfl rfl rfl) rfl ?_
 refine O.l0 (Lo.st 5 Z25 rfl rfl rfl rfl rfl (by simp only [List.all_cons, List.all_nil, Bool.and_true, hV168] <;> rfl) rfl) ?_
 rintro _ _ rfl
 refine O.oc 1 rfl ?_
 exact J.rn [_] [0] rfl ⟨⟨_, _, 0, 0, _, rfl, Cel.var 5 rfl, rfl, Cut.agg _ A25 Z25 rfl rfl⟩, trivial⟩ rfl ⟨V167, rfl, rfl⟩

set_option maxRecDepth 100000 in
theorem nb64 : Tri Tryz.prog 123 #[.int .i64 2, .int .i64 4] [] [] (fun v L' => v = .tuple #[.agg #[.int .i64 2, .int .i64 4], .int .i64 0] ∧ L' = []) := by
 refine Tri.en F123 rfl K123 rfl fun w0 => ?_
 refine J.co 2 rfl ?_
 refine O.l (Lo.al Y184 rfl) rfl ?_
 rintro _ _ ⟨g175, rfl, rfl⟩
 refine O.oo 6 rfl ?_
 refine O.p (Pu.build [(0, .int .i64 2), (1, .int .i64 4)] [.int .i64 2, .int .i64 4] #[(0, 1), (1, 1)] U182 Y182 (places182 N182) rfl (by kernel_rfl)) rfl ?_
 refine O.p (Pu.build [(0, .agg #[.int .i64 2, .int .i64 4])] [.int .i64 2, .int .i64 4] #[(0, 2)] U184 Y184 (places184 N184) rfl (by kernel_rfl)) rfl ?_
 refine O.l (Lo.al Y184 rfl) rfl ?_
 rintro _ _ ⟨g176, rfl, rfl⟩
 refine O.l0 (Lo.st 0 Z184 rfl rfl rfl rfl rfl rfl rfl) ?_
 rintro _ _ rfl
 refine O.oo 23 rfl ?_
 refine O.q (Qt.lva 0 A184 Z184 rfl rfl rfl) rfl ?_
 refine O.l0 (Lo.st 1 Z184 rfl rfl rfl rfl rfl rfl rfl) ?_
 rintro _ _ rfl
 refine O.oc 2 rfl ?_
 exact J.rn [_, _] [] rfl ⟨⟨_, _, 0, 0, _, rfl, Cel.var 1 rfl, rfl, Cut.agg _ A184 Z184 rfl rfl⟩, rfl, trivial⟩ rfl ⟨rfl, rfl⟩

set_option maxRecDepth 100000 in
theorem nb65 : Tri Tryz.prog 124 #[.int .u64 1, .int .i64 4, .int .i64 1000] [] [] (fun v L' => v = .tuple #[.agg #[.int .u64 1, .int .i64 4, .int .i64 1000], .int .i64 0] ∧ L' = []) := by
 refine Tri.en F124 rfl K124 rfl fun w0 => ?_
 refine J.co 2 rfl ?_
 refine O.l (Lo.al Y188 rfl) rfl ?_
 rintro _ _ ⟨g178, rfl, rfl⟩
 refine O.oo 27 rfl ?_
 refine O.p (Pu.build [(0, .int .u64 1), (1, .int .i64 4), (2, .int .i64 1000)] [.int .u64 1, .int .i64 4, .int .i64 1000] #[(0, 1), (1, 1), (2, 1)] U188 Y188 (places188 N188) rfl (by kernel_rfl)) rfl ?_
 refine O.l0 (Lo.st 0 Z188 rfl rfl rfl rfl rfl rfl rfl) ?_
 rintro _ _ rfl
 refine O.oc 2 rfl ?_
 exact J.rn [_, _] [] rfl ⟨⟨_, _, 0, 0, _, rfl, Cel.var 0 rfl, rfl, Cut.agg _ A188 Z188 rfl rfl⟩, rfl, trivial⟩ rfl ⟨rfl, rfl⟩

set_option maxRecDepth 100000 in
theorem nb66 : Tri Tryz.prog 126 #[.agg #[.int .i64 2, .int .i64 4]] [] [] (fun v L' => v = .int .i64 8 ∧ L' = []) := by
 refine Tri.en F126 rfl K126 rfl fun w0 => ?_
 refine J.co 2 rfl ?_
 refine O.l (Lo.bx rfl rfl) rfl ?_
 rintro _ _ ⟨g181, rfl, rfl⟩
 refine O.oo 5 rfl ?_
 refine O.q (Qt.lv 0 A3 rfl rfl rfl) rfl ?_
 refine O.oo 1 rfl ?_
 refine O.q (Qt.lv 0 A3 rfl rfl rfl) rfl ?_
 refine O.p (Pu.mul' rfl rfl (by decide)) rfl ?_
 refine O.oc 2 rfl ?_
 exact J.r0 rfl rfl ⟨rfl, rfl⟩

set_option maxRecDepth 100000 in
theorem nb67 : Tri Tryz.prog 222 #[.int .i64 1, .int .i64 1, .int .i64 16] [] [] (fun v L' => v = .bool true ∧ L' = []) := by
 refine Tri.en F222 rfl K222 rfl fun w0 => ?_
 refine J.cc 16 rfl ?_
 exact J.r0 rfl rfl ⟨rfl, rfl⟩

set_option maxRecDepth 100000 in
theorem nb68 : Tri Tryz.prog 222 #[.int .i64 1, .int .i64 1, .int .i64 64] [] [] (fun v L' => v = .bool true ∧ L' = []) := by
 refine Tri.en F222 rfl K222 rfl fun w0 => ?_
 refine J.cc 16 rfl ?_
 exact J.r0 rfl rfl ⟨rfl, rfl⟩

set_option maxRecDepth 100000 in
theorem nb69 : Tri Tryz.prog 222 #[.int .i64 10, .int .i64 1, .int .i64 64] [] [] (fun v L' => v = .bool true ∧ L' = []) := by
 refine Tri.en F222 rfl K222 rfl fun w0 => ?_
 refine J.cc 16 rfl ?_
 exact J.r0 rfl rfl ⟨rfl, rfl⟩

set_option maxRecDepth 100000 in
theorem nb70 : Tri Tryz.prog 222 #[.int .i64 1, .int .i64 0, .int .i64 7] [] [] (fun v L' => v = .bool true ∧ L' = []) := by
 refine Tri.en F222 rfl K222 rfl fun w0 => ?_
 refine J.cc 16 rfl ?_
 exact J.r0 rfl rfl ⟨rfl, rfl⟩

set_option maxRecDepth 100000 in
theorem nb71 : Tri Tryz.prog 222 #[.int .i64 64, .int .i64 0, .int .i64 256] [] [] (fun v L' => v = .bool true ∧ L' = []) := by
 refine Tri.en F222 rfl K222 rfl fun w0 => ?_
 refine J.cc 16 rfl ?_
 exact J.r0 rfl rfl ⟨rfl, rfl⟩

set_option maxRecDepth 100000 in
theorem nb72 : Tri Tryz.prog 222 #[.int .i64 20, .int .i64 0, .int .i64 1099511627776] [] [] (fun v L' => v = .bool true ∧ L' = []) := by
 refine Tri.en F222 rfl K222 rfl fun w0 => ?_
 refine J.cc 16 rfl ?_
 exact J.r0 rfl rfl ⟨rfl, rfl⟩

set_option maxRecDepth 100000 in
theorem nb73 : Tri Tryz.prog 222 #[.int .i64 1, .int .i64 1, .int .i64 8] [] [] (fun v L' => v = .bool true ∧ L' = []) := by
 refine Tri.en F222 rfl K222 rfl fun w0 => ?_
 refine J.cc 16 rfl ?_
 exact J.r0 rfl rfl ⟨rfl, rfl⟩

set_option maxRecDepth 100000 in
theorem nb74 : Tri Tryz.prog 222 #[.int .i64 0, .int .i64 0, .int .i64 0] [] [] (fun v L' => v = .bool true ∧ L' = []) := by
 refine Tri.en F222 rfl K222 rfl fun w0 => ?_
 refine J.cc 16 rfl ?_
 exact J.r0 rfl rfl ⟨rfl, rfl⟩

set_option maxRecDepth 100000 in
theorem nb75 : Tri Tryz.prog 223 #[.agg #[.int .i64 1, .int .i64 1, .int .i64 10, .int .i64 1, .int .i64 64, .int .i64 20, .int .i64 1, .int .i64 4, .int .i64 10, .int .i64 5, .int .i64 1, .int .i64 3, .int .i64 2, Value.slice none 0 0], .int .i64 0, .int .i64 1] [] [] (fun v L' => v = .bool true ∧ L' = []) := by
 refine Tri.en F223 rfl K223 rfl fun w0 => ?_
 refine J.co 2 rfl ?_
 refine O.l (Lo.bx rfl rfl) rfl ?_
 rintro _ _ ⟨g183, rfl, rfl⟩
 refine O.oo 6 rfl ?_
 refine O.q (Qt.lv 0 A54 rfl rfl rfl) rfl ?_
 refine O.p (Pu.len (A := none) (n := 0) (cap := 0) U54 rfl) rfl ?_
 refine O.oo 8 rfl ?_
 refine O.q (Qt.lv 0 A54 rfl rfl rfl) rfl ?_
 refine O.p (Pu.len (A := none) (n := 0) (cap := 0) U54 rfl) rfl ?_
 refine O.oc 3 rfl ?_
 refine J.un ?_
 refine J.cc 11 rfl ?_
 exact J.r0 rfl rfl ⟨rfl, rfl⟩

set_option maxRecDepth 100000 in
theorem nb76 (g184 : Nat) : Tri Tryz.prog 225 #[.pointer (some ⟨g184, 0, none⟩), .int .i64 0] [] [] (fun v L' => v = .pointer (some ⟨g184, 0, none⟩) ∧ L' = []) := by
 refine Tri.en F225 rfl K225 rfl fun w0 => ?_
 refine J.cc 23 rfl ?_
 exact J.r0 rfl rfl ⟨rfl, rfl⟩

set_option maxRecDepth 100000 in
theorem nb77 (g184 : Nat) : Tri Tryz.prog 225 #[.pointer (some ⟨g184, 0, none⟩), .int .i64 1] [] [] (fun v L' => v = .pointer (some ⟨g184, 1, none⟩) ∧ L' = []) := by
 refine Tri.en F225 rfl K225 rfl fun w0 => ?_
 refine J.cc 29 rfl ?_
 exact J.r0 rfl rfl ⟨rfl, rfl⟩

set_option maxRecDepth 100000 in
theorem nb78 (g184 : Nat) : Tri Tryz.prog 225 #[.pointer (some ⟨g184, 0, none⟩), .int .i64 2] [] [] (fun v L' => v = .pointer (some ⟨g184, 2, none⟩) ∧ L' = []) := by
 refine Tri.en F225 rfl K225 rfl fun w0 => ?_
 refine J.cc 35 rfl ?_
 exact J.r0 rfl rfl ⟨rfl, rfl⟩

set_option maxRecDepth 100000 in
theorem nb79 (g184 : Nat) : Tri Tryz.prog 225 #[.pointer (some ⟨g184, 0, none⟩), .int .i64 3] [] [] (fun v L' => v = .pointer (some ⟨g184, 3, none⟩) ∧ L' = []) := by
 refine Tri.en F225 rfl K225 rfl fun w0 => ?_
 refine J.cc 41 rfl ?_
 exact J.r0 rfl rfl ⟨rfl, rfl⟩

set_option maxRecDepth 100000 in
theorem nb80 (g184 : Nat) : Tri Tryz.prog 225 #[.pointer (some ⟨g184, 0, none⟩), .int .i64 4] [] [] (fun v L' => v = .pointer (some ⟨g184, 4, none⟩) ∧ L' = []) := by
 refine Tri.en F225 rfl K225 rfl fun w0 => ?_
 refine J.cc 47 rfl ?_
 exact J.r0 rfl rfl ⟨rfl, rfl⟩

set_option maxRecDepth 100000 in
theorem nb81 (g184 : Nat) : Tri Tryz.prog 225 #[.pointer (some ⟨g184, 0, none⟩), .int .i64 5] [] [] (fun v L' => v = .pointer (some ⟨g184, 5, none⟩) ∧ L' = []) := by
 refine Tri.en F225 rfl K225 rfl fun w0 => ?_
 refine J.cc 53 rfl ?_
 exact J.r0 rfl rfl ⟨rfl, rfl⟩

set_option maxRecDepth 100000 in
theorem nb82 (g184 : Nat) : Tri Tryz.prog 225 #[.pointer (some ⟨g184, 0, none⟩), .int .i64 6] [] [] (fun v L' => v = .pointer (some ⟨g184, 6, none⟩) ∧ L' = []) := by
 refine Tri.en F225 rfl K225 rfl fun w0 => ?_
 refine J.cc 55 rfl ?_
 exact J.r0 rfl rfl ⟨rfl, rfl⟩

set_option maxRecDepth 100000 in
theorem nb83 : Tri Tryz.prog 130 #[.agg #[.int .i64 1, .int .i64 4, .int .i64 10, .int .i64 5, .int .i64 1, .int .i64 3, .int .i64 2], .int .i64 8] [] [] (fun v L' => v = .int .i64 0 ∧ L' = []) := by
 refine Tri.en F130 rfl K130 rfl fun w0 => ?_
 refine J.co 2 rfl ?_
 refine O.l (Lo.bx rfl rfl) rfl ?_
 rintro _ _ ⟨g184, rfl, rfl⟩
 refine O.oo 17 rfl ?_
 refine O.q (Qt.lv 0 A3 rfl rfl rfl) rfl ?_
 refine O.p (Pu.buildA [(0, .int .i64 0), (1, .int .i64 4)] [.int .i64 0, .int .i64 4] U303 Y303 Z3 rfl (by kernel_rfl)) rfl ?_
 refine O.p (Pu.buildA [(0, .int .i64 0), (1, .int .i64 10000)] [.int .i64 0, .int .i64 10000] U303 Y303 Z3 rfl (by kernel_rfl)) rfl ?_
 refine O.p (Pu.buildA [(0, .int .i64 1), (1, .int .i64 99)] [.int .i64 1, .int .i64 99] U303 Y303 Z3 rfl (by kernel_rfl)) rfl ?_
 refine O.p (Pu.buildA [(0, .int .i64 1), (1, .int .i64 100)] [.int .i64 1, .int .i64 100] U303 Y303 Z3 rfl (by kernel_rfl)) rfl ?_
 refine O.oo 1 rfl ?_
 refine O.p (Pu.buildA [(0, .int .i64 0), (1, .int .i64 8)] [.int .i64 0, .int .i64 8] U303 Y303 Z3 rfl (by kernel_rfl)) rfl ?_
 refine O.p (Pu.buildA [(0, .int .i64 1), (1, .int .i64 32)] [.int .i64 1, .int .i64 32] U303 Y303 Z3 rfl (by kernel_rfl)) rfl ?_
 refine O.p (Pu.buildA [(0, .int .i64 1), (1, .int .i64 32)] [.int .i64 1, .int .i64 32] U303 Y303 Z3 rfl (by kernel_rfl)) rfl ?_
 refine O.p (Pu.buildA [(0, .agg #[.int .i64 0, .int .i64 4]), (1, .agg #[.int .i64 0, .int .i64 10000]), (2, .agg #[.int .i64 1, .int .i64 99]), (3, .agg #[.int .i64 1, .int .i64 100]), (4, .agg #[.int .i64 0, .int .i64 8]), (5, .agg #[.int .i64 1, .int .i64 32]), (6, .agg #[.int .i64 1, .int .i64 32])] [.int .i64 0, .int .i64 4, .int .i64 0, .int .i64 10000, .int .i64 1, .int .i64 99, .int .i64 1, .int .i64 100, .int .i64 0, .int .i64 8, .int .i64 1, .int .i64 32, .int .i64 1, .int .i64 32] U304 Y304 Z303 rfl (by kernel_rfl)) rfl ?_
 refine O.l (Lo.al Y304 rfl) rfl ?_
 rintro _ _ ⟨g185, rfl, rfl⟩
 refine O.l0 (Lo.st 0 Z304 rfl rfl rfl rfl rfl rfl rfl) ?_
 rintro _ _ rfl
 refine O.oo 4 rfl ?_
 refine O.q (Qt.lva 0 A304 Z304 rfl rfl rfl) rfl ?_
 refine O.oc 3 rfl ?_
 refine J.un ?_
 refine J.co 12 rfl ?_
 refine O.p (Pu.indexK (cs := [.int .i64 0, .int .i64 4, .int .i64 0, .int .i64 10000, .int .i64 1, .int .i64 99, .int .i64 1, .int .i64 100, .int .i64 0, .int .i64 8, .int .i64 1, .int .i64 32, .int .i64 1, .int .i64 32]) [.int .i64 0, .int .i64 4] U304 Z303 A303 rfl rfl (by decide) (by decide) rfl) rfl ?_
 refine O.l (Lo.al Y303 rfl) rfl ?_
 rintro _ _ ⟨g186, rfl, rfl⟩
 refine O.oo 1 rfl ?_
 refine O.l0 (Lo.st 0 Z303 rfl rfl rfl rfl rfl rfl rfl) ?_
 rintro _ _ rfl
 refine O.oo 4 rfl ?_
 refine O.l (Lo.ca C225 (nb76 g184) [] rfl rfl .nil) rfl ?_
 rintro _ _ ⟨_, ⟨rfl, rfl⟩, rfl⟩
 refine O.oo 1 rfl ?_
 refine O.q (Qt.lv 2 A3 rfl rfl rfl) rfl ?_
 refine O.oo 5 rfl ?_
 refine O.p (Pu.indexAddrK 0 U303 Z3 rfl rfl (by decide) (by decide) rfl) rfl ?_
 refine O.q (Qt.lv 0 A3 rfl rfl rfl) rfl ?_
 refine O.oo 3 rfl ?_
 refine O.gz (Pu.qt (Pu.indexAddrK 1 U303 Z3 rfl rfl (by decide) (by decide) rfl)) rfl rfl ?_
 refine O.gz (Qt.lv 0 A3 rfl rfl rfl) rfl rfl ?_
 refine O.oo 7 rfl ?_
 refine O.p (Pu.add' rfl rfl (by decide)) rfl ?_
 refine O.oc 2 rfl ?_
 refine J.again ?_
 refine J.co 12 rfl ?_
 refine O.p (Pu.indexK (cs := [.int .i64 0, .int .i64 4, .int .i64 0, .int .i64 10000, .int .i64 1, .int .i64 99, .int .i64 1, .int .i64 100, .int .i64 0, .int .i64 8, .int .i64 1, .int .i64 32, .int .i64 1, .int .i64 32]) [.int .i64 0, .int .i64 10000] U304 Z303 A303 rfl rfl (by decide) (by decide) rfl) rfl ?_
 refine O.l (Lo.al Y303 rfl) rfl ?_
 rintro _ _ ⟨g187, rfl, rfl⟩
 refine O.oo 1 rfl ?_
 refine O.l0 (Lo.st 0 Z303 rfl rfl rfl rfl rfl rfl rfl) ?_
 rintro _ _ rfl
 refine O.oo 4 rfl ?_
 refine O.l (Lo.ca C225 (nb77 g184) [] rfl rfl .nil) rfl ?_
 rintro _ _ ⟨_, ⟨rfl, rfl⟩, rfl⟩
 refine O.oo 1 rfl ?_
 refine O.q (Qt.lv 3 A3 rfl rfl rfl) rfl ?_
 refine O.oo 5 rfl ?_
 refine O.p (Pu.indexAddrK 0 U303 Z3 rfl rfl (by decide) (by decide) rfl) rfl ?_
 refine O.q (Qt.lv 0 A3 rfl rfl rfl) rfl ?_
 refine O.oo 3 rfl ?_
 refine O.gz (Pu.qt (Pu.indexAddrK 1 U303 Z3 rfl rfl (by decide) (by decide) rfl)) rfl rfl ?_
 refine O.gz (Qt.lv 0 A3 rfl rfl rfl) rfl rfl ?_
 refine O.oo 7 rfl ?_
 refine O.p (Pu.add' rfl rfl (by decide)) rfl ?_
 refine O.oc 2 rfl ?_
 refine J.again ?_
 refine J.co 12 rfl ?_
 refine O.p (Pu.indexK (cs := [.int .i64 0, .int .i64 4, .int .i64 0, .int .i64 10000, .int .i64 1, .int .i64 99, .int .i64 1, .int .i64 100, .int .i64 0, .int .i64 8, .int .i64 1, .int .i64 32, .int .i64 1, .int .i64 32]) [.int .i64 1, .int .i64 99] U304 Z303 A303 rfl rfl (by decide) (by decide) rfl) rfl ?_
 refine O.l (Lo.al Y303 rfl) rfl ?_
 rintro _ _ ⟨g188, rfl, rfl⟩
 refine O.oo 1 rfl ?_
 refine O.l0 (Lo.st 0 Z303 rfl rfl rfl rfl rfl rfl rfl) ?_
 rintro _ _ rfl
 refine O.oo 4 rfl ?_
 refine O.l (Lo.ca C225 (nb78 g184) [] rfl rfl .nil) rfl ?_
 rintro _ _ ⟨_, ⟨rfl, rfl⟩, rfl⟩
 refine O.oo 1 rfl ?_
 refine O.q (Qt.lv 4 A3 rfl rfl rfl) rfl ?_
 refine O.oo 5 rfl ?_
 refine O.p (Pu.indexAddrK 0 U303 Z3 rfl rfl (by decide) (by decide) rfl) rfl ?_
 refine O.q (Qt.lv 0 A3 rfl rfl rfl) rfl ?_
 refine O.oo 3 rfl ?_
 refine O.gz (Pu.qt (Pu.indexAddrK 1 U303 Z3 rfl rfl (by decide) (by decide) rfl)) rfl rfl ?_
 refine O.gz (Qt.lv 0 A3 rfl rfl rfl) rfl rfl ?_
 refine O.oo 7 rfl ?_
 refine O.p (Pu.add' rfl rfl (by decide)) rfl ?_
 refine O.oc 2 rfl ?_
 refine J.again ?_
 refine J.co 12 rfl ?_
 refine O.p (Pu.indexK (cs := [.int .i64 0, .int .i64 4, .int .i64 0, .int .i64 10000, .int .i64 1, .int .i64 99, .int .i64 1, .int .i64 100, .int .i64 0, .int .i64 8, .int .i64 1, .int .i64 32, .int .i64 1, .int .i64 32]) [.int .i64 1, .int .i64 100] U304 Z303 A303 rfl rfl (by decide) (by decide) rfl) rfl ?_
 refine O.l (Lo.al Y303 rfl) rfl ?_
 rintro _ _ ⟨g189, rfl, rfl⟩
 refine O.oo 1 rfl ?_
 refine O.l0 (Lo.st 0 Z303 rfl rfl rfl rfl rfl rfl rfl) ?_
 rintro _ _ rfl
 refine O.oo 4 rfl ?_
 refine O.l (Lo.ca C225 (nb79 g184) [] rfl rfl .nil) rfl ?_
 rintro _ _ ⟨_, ⟨rfl, rfl⟩, rfl⟩
 refine O.oo 1 rfl ?_
 refine O.q (Qt.lv 5 A3 rfl rfl rfl) rfl ?_
 refine O.oo 5 rfl ?_
 refine O.p (Pu.indexAddrK 0 U303 Z3 rfl rfl (by decide) (by decide) rfl) rfl ?_
 refine O.q (Qt.lv 0 A3 rfl rfl rfl) rfl ?_
 refine O.oo 3 rfl ?_
 refine O.gz (Pu.qt (Pu.indexAddrK 1 U303 Z3 rfl rfl (by decide) (by decide) rfl)) rfl rfl ?_
 refine O.gz (Qt.lv 0 A3 rfl rfl rfl) rfl rfl ?_
 refine O.oo 7 rfl ?_
 refine O.p (Pu.add' rfl rfl (by decide)) rfl ?_
 refine O.oc 2 rfl ?_
 refine J.again ?_
 refine J.co 12 rfl ?_
 refine O.p (Pu.indexK (cs := [.int .i64 0, .int .i64 4, .int .i64 0, .int .i64 10000, .int .i64 1, .int .i64 99, .int .i64 1, .int .i64 100, .int .i64 0, .int .i64 8, .int .i64 1, .int .i64 32, .int .i64 1, .int .i64 32]) [.int .i64 0, .int .i64 8] U304 Z303 A303 rfl rfl (by decide) (by decide) rfl) rfl ?_
 refine O.l (Lo.al Y303 rfl) rfl ?_
 rintro _ _ ⟨g190, rfl, rfl⟩
 refine O.oo 1 rfl ?_
 refine O.l0 (Lo.st 0 Z303 rfl rfl rfl rfl rfl rfl rfl) ?_
 rintro _ _ rfl
 refine O.oo 4 rfl ?_
 refine O.l (Lo.ca C225 (nb80 g184) [] rfl rfl .nil) rfl ?_
 rintro _ _ ⟨_, ⟨rfl, rfl⟩, rfl⟩
 refine O.oo 1 rfl ?_
 refine O.q (Qt.lv 6 A3 rfl rfl rfl) rfl ?_
 refine O.oo 5 rfl ?_
 refine O.p (Pu.indexAddrK 0 U303 Z3 rfl rfl (by decide) (by decide) rfl) rfl ?_
 refine O.q (Qt.lv 0 A3 rfl rfl rfl) rfl ?_
 refine O.oo 3 rfl ?_
 refine O.gz (Pu.qt (Pu.indexAddrK 1 U303 Z3 rfl rfl (by decide) (by decide) rfl)) rfl rfl ?_
 refine O.gz (Qt.lv 0 A3 rfl rfl rfl) rfl rfl ?_
 refine O.oo 7 rfl ?_
 refine O.p (Pu.add' rfl rfl (by decide)) rfl ?_
 refine O.oc 2 rfl ?_
 refine J.again ?_
 refine J.co 12 rfl ?_
 refine O.p (Pu.indexK (cs := [.int .i64 0, .int .i64 4, .int .i64 0, .int .i64 10000, .int .i64 1, .int .i64 99, .int .i64 1, .int .i64 100, .int .i64 0, .int .i64 8, .int .i64 1, .int .i64 32, .int .i64 1, .int .i64 32]) [.int .i64 1, .int .i64 32] U304 Z303 A303 rfl rfl (by decide) (by decide) rfl) rfl ?_
 refine O.l (Lo.al Y303 rfl) rfl ?_
 rintro _ _ ⟨g191, rfl, rfl⟩
 refine O.oo 1 rfl ?_
 refine O.l0 (Lo.st 0 Z303 rfl rfl rfl rfl rfl rfl rfl) ?_
 rintro _ _ rfl
 refine O.oo 4 rfl ?_
 refine O.l (Lo.ca C225 (nb81 g184) [] rfl rfl .nil) rfl ?_
 rintro _ _ ⟨_, ⟨rfl, rfl⟩, rfl⟩
 refine O.oo 1 rfl ?_
 refine O.q (Qt.lv 7 A3 rfl rfl rfl) rfl ?_
 refine O.oo 5 rfl ?_
 refine O.p (Pu.indexAddrK 0 U303 Z3 rfl rfl (by decide) (by decide) rfl) rfl ?_
 refine O.q (Qt.lv 0 A3 rfl rfl rfl) rfl ?_
 refine O.oo 3 rfl ?_
 refine O.gz (Pu.qt (Pu.indexAddrK 1 U303 Z3 rfl rfl (by decide) (by decide) rfl)) rfl rfl ?_
 refine O.gz (Qt.lv 0 A3 rfl rfl rfl) rfl rfl ?_
 refine O.oo 7 rfl ?_
 refine O.p (Pu.add' rfl rfl (by decide)) rfl ?_
 refine O.oc 2 rfl ?_
 refine J.again ?_
 refine J.co 12 rfl ?_
 refine O.p (Pu.indexK (cs := [.int .i64 0, .int .i64 4, .int .i64 0, .int .i64 10000, .int .i64 1, .int .i64 99, .int .i64 1, .int .i64 100, .int .i64 0, .int .i64 8, .int .i64 1, .int .i64 32, .int .i64 1, .int .i64 32]) [.int .i64 1, .int .i64 32] U304 Z303 A303 rfl rfl (by decide) (by decide) rfl) rfl ?_
 refine O.l (Lo.al Y303 rfl) rfl ?_
 rintro _ _ ⟨g192, rfl, rfl⟩
 refine O.oo 1 rfl ?_
 refine O.l0 (Lo.st 0 Z303 rfl rfl rfl rfl rfl rfl rfl) ?_
 rintro _ _ rfl
 refine O.oo 4 rfl ?_
 refine O.l (Lo.ca C225 (nb82 g184) [] rfl rfl .nil) rfl ?_
 rintro _ _ ⟨_, ⟨rfl, rfl⟩, rfl⟩
 refine O.oo 1 rfl ?_
 refine O.q (Qt.lv 8 A3 rfl rfl rfl) rfl ?_
 refine O.oo 5 rfl ?_
 refine O.p (Pu.indexAddrK 0 U303 Z3 rfl rfl (by decide) (by decide) rfl) rfl ?_
 refine O.q (Qt.lv 0 A3 rfl rfl rfl) rfl ?_
 refine O.oo 3 rfl ?_
 refine O.gz (Pu.qt (Pu.indexAddrK 1 U303 Z3 rfl rfl (by decide) (by decide) rfl)) rfl rfl ?_
 refine O.gz (Qt.lv 0 A3 rfl rfl rfl) rfl rfl ?_
 refine O.oo 7 rfl ?_
 refine O.p (Pu.add' rfl rfl (by decide)) rfl ?_
 refine O.oc 2 rfl ?_
 refine J.again ?_
 refine J.cc 11 rfl ?_
 exact J.r0 rfl rfl ⟨rfl, rfl⟩

set_option maxRecDepth 100000 in
theorem nb84 : Tri Tryz.prog 125 #[.agg #[.int .i64 1, .int .i64 1, .int .i64 10, .int .i64 1, .int .i64 64, .int .i64 20, .int .i64 1, .int .i64 4, .int .i64 10, .int .i64 5, .int .i64 1, .int .i64 3, .int .i64 2, Value.slice none 0 0], .int .i64 0, .int .i64 1, .int .i64 8] [] [] (fun v L' => v = .int .i64 0 ∧ L' = []) := by
 refine Tri.en F125 rfl K125 rfl fun w0 => ?_
 refine J.co 2 rfl ?_
 refine O.l (Lo.bx rfl rfl) rfl ?_
 rintro _ _ ⟨g182, rfl, rfl⟩
 refine O.oo 5 rfl ?_
 refine O.q (Qt.lv 0 A3 rfl rfl rfl) rfl ?_
 refine O.l (Lo.ca C222 nb67 [] rfl rfl .nil) rfl ?_
 rintro _ _ ⟨_, ⟨rfl, rfl⟩, rfl⟩
 refine O.oo 2 rfl ?_
 refine O.gz (Qt.lv 0 A3 rfl rfl rfl) rfl rfl ?_
 refine O.gy (Lo.ca C222 nb68 [] rfl rfl .nil) rfl rfl ?_
 rintro _ _ ⟨_, ⟨rfl, rfl⟩, rfl⟩
 refine O.oo 3 rfl ?_
 refine O.gz (Qt.lv 0 A3 rfl rfl rfl) rfl rfl ?_
 refine O.gy (Lo.ca C222 nb69 [] rfl rfl .nil) rfl rfl ?_
 rintro _ _ ⟨_, ⟨rfl, rfl⟩, rfl⟩
 refine O.oo 3 rfl ?_
 refine O.gz (Qt.lv 0 A3 rfl rfl rfl) rfl rfl ?_
 refine O.gy (Lo.ca C222 nb70 [] rfl rfl .nil) rfl rfl ?_
 rintro _ _ ⟨_, ⟨rfl, rfl⟩, rfl⟩
 refine O.oo 6 rfl ?_
 refine O.q (Qt.lv 0 A3 rfl rfl rfl) rfl ?_
 refine O.l (Lo.ca C222 nb71 [] rfl rfl .nil) rfl ?_
 rintro _ _ ⟨_, ⟨rfl, rfl⟩, rfl⟩
 refine O.oo 2 rfl ?_
 refine O.gz (Qt.lv 0 A3 rfl rfl rfl) rfl rfl ?_
 refine O.gy (Lo.ca C222 nb72 [] rfl rfl .nil) rfl rfl ?_
 rintro _ _ ⟨_, ⟨rfl, rfl⟩, rfl⟩
 refine O.oo 7 rfl ?_
 refine O.l (Lo.ca C222 nb73 [] rfl rfl .nil) rfl ?_
 rintro _ _ ⟨_, ⟨rfl, rfl⟩, rfl⟩
 refine O.oo 4 rfl ?_
 refine O.gz (Pu.qt (Pu.sub' rfl rfl (by decide))) rfl rfl ?_
 refine O.gy (Lo.ca C222 nb74 [] rfl rfl .nil) rfl rfl ?_
 rintro _ _ ⟨_, ⟨rfl, rfl⟩, rfl⟩
 refine O.oo 11 rfl ?_
 refine O.gz (Qt.lva 0 A56 Z56 rfl rfl rfl) rfl rfl ?_
 refine O.oo 2 rfl ?_
 refine O.gy (Lo.ca C223 nb75 [] rfl rfl .nil) rfl rfl ?_
 rintro _ _ ⟨_, ⟨rfl, rfl⟩, rfl⟩
 refine O.oo 8 rfl ?_
 refine O.q (Qt.lva 0 A45 Z45 rfl rfl rfl) rfl ?_
 refine O.oo 1 rfl ?_
 refine O.l (Lo.ca C130 nb83 [] rfl rfl .nil) rfl ?_
 rintro _ _ ⟨_, ⟨rfl, rfl⟩, rfl⟩
 refine O.oc 2 rfl ?_
 exact J.r0 rfl rfl ⟨rfl, rfl⟩

set_option maxRecDepth 100000 in
theorem nb85 (V167 : Value) : Tri Tryz.prog 300 #[V167, .int .i64 0] [] [row V167 56 14 ([[.int .i64 1, .int .i64 1, .int .i64 10, .int .i64 1, .int .i64 64, .int .i64 20, .int .i64 1, .int .i64 4, .int .i64 10, .int .i64 5, .int .i64 1, .int .i64 3, .int .i64 2, Value.slice none 0 0]].map id)] (fun v L' => v = Value.slice none 0 0 ∧ L' = [row V167 56 14 ([[.int .i64 1, .int .i64 1, .int .i64 10, .int .i64 1, .int .i64 64, .int .i64 20, .int .i64 1, .int .i64 4, .int .i64 10, .int .i64 5, .int .i64 1, .int .i64 3, .int .i64 2, Value.slice none 0 0]].map id)]) := by
 refine Tri.en F300 rfl K300 rfl fun w0 => ?_
 refine J.co 16 rfl ?_
 refine O.gz (Qt.lenM U23 rfl (Src.row 0 rfl)) rfl rfl ?_
 refine O.oo 10 rfl ?_
 refine O.q (Qt.ix U23 Z56 rfl (Src.row 0 rfl) (j := 0) (a := [.int .i64 1, .int .i64 1, .int .i64 10, .int .i64 1, .int .i64 64, .int .i64 20, .int .i64 1, .int .i64 4, .int .i64 10, .int .i64 5, .int .i64 1, .int .i64 3, .int .i64 2, Value.slice none 0 0]) rfl rfl rfl) rfl ?_
 refine O.oo 1 rfl ?_
 refine O.q (Qt.le A54 (Src.row 0 rfl) (j := 0) (a := [.int .i64 1, .int .i64 1, .int .i64 10, .int .i64 1, .int .i64 64, .int .i64 20, .int .i64 1, .int .i64 4, .int .i64 10, .int .i64 5, .int .i64 1, .int .i64 3, .int .i64 2, Value.slice none 0 0]) rfl 13 rfl (by omega) rfl) rfl ?_
 refine O.p (Pu.len (A := none) (n := 0) (cap := 0) U54 rfl) rfl ?_
 refine O.oc 3 rfl ?_
 refine J.un ?_
 refine J.cc 12 rfl ?_
 exact J.r1 [0] rfl rfl rfl ⟨rfl, rfl⟩

set_option maxRecDepth 100000 in
theorem nb86 (V167 : Value) : Tri Tryz.prog 299 #[V167] [] [row V167 56 14 ([[.int .i64 1, .int .i64 1, .int .i64 10, .int .i64 1, .int .i64 64, .int .i64 20, .int .i64 1, .int .i64 4, .int .i64 10, .int .i64 5, .int .i64 1, .int .i64 3, .int .i64 2, Value.slice none 0 0]].map id)] (fun v L' => ∃ (V193 : Value), v = V193 ∧ L' = [row V167 56 14 ([[.int .i64 1, .int .i64 1, .int .i64 10, .int .i64 1, .int .i64 64, .int .i64 20, .int .i64 1, .int .i64 4, .int .i64 10, .int .i64 5, .int .i64 1, .int .i64 3, .int .i64 2, Value.slice none 0 0]].map id), row V193 3 1 ([[.int .i64 0]].map id)]) := by
 refine Tri.en F299 rfl K299 rfl fun w0 => ?_
 refine J.co 7 rfl ?_
 refine O.q (Qt.lenM U23 rfl (Src.row 0 rfl)) rfl ?_
 refine O.l (Lo.makeSlice (n := 1) (s := 1) (bytes := 8) ((List.replicate 1 [.int .i64 0]).map id) U60 (fun w => run_typeInfo w (info3).1) (info3).2.2.2 Z3 Y3 rfl rfl rfl rfl rfl (by kernel_rfl) rfl rfl) rfl ?_
 rintro V193 _ rfl
 refine O.oo 6 rfl ?_
 refine O.q (Qt.lenM U23 rfl (Src.row 1 rfl)) rfl ?_
 refine O.oc 3 rfl ?_
 refine J.un ?_
 refine J.co 18 rfl ?_
 refine O.l (Lo.ca C300 (nb85 V167) [1] rfl rfl .nil) rfl ?_
 rintro _ _ ⟨_, ⟨rfl, rfl⟩, rfl⟩
 refine O.p (Pu.len (A := none) (n := 0) (cap := 0) U60 rfl) rfl ?_
 refine O.oc 3 rfl ?_
 refine J.un ?_
 refine J.co 9 rfl ?_
 refine O.p (Pu.add' rfl rfl (by decide)) rfl ?_
 refine O.oc 2 rfl ?_
 refine J.again ?_
 refine J.cc 12 rfl ?_
 exact J.r1 [0, 1] rfl rfl rfl ⟨V193, rfl, rfl⟩

set_option maxRecDepth 100000 in
theorem nb87 (V193 : Value) : Tri Tryz.prog 280 #[V193, .int .i64 0] [] [row V193 3 1 ([[.int .i64 0]].map id)] (fun v L' => v = .int .i64 0 ∧ L' = [row V193 3 1 ([[.int .i64 0]].map id)]) := by
 refine Tri.en F280 rfl K280 rfl fun w0 => ?_
 refine J.co 8 rfl ?_
 refine O.q (Qt.lenM U60 rfl (Src.row 0 rfl)) rfl ?_
 refine O.oc 3 rfl ?_
 refine J.un ?_
 refine J.co 19 rfl ?_
 refine O.q (Qt.ix U60 Z3 rfl (Src.row 0 rfl) (j := 0) (a := [.int .i64 0]) rfl rfl rfl) rfl ?_
 refine O.q (Qt.le A3 (Src.row 0 rfl) (j := 0) (a := [.int .i64 0]) rfl 0 rfl (by omega) rfl) rfl ?_
 refine O.oc 8 rfl ?_
 exact J.r1 [0] rfl rfl rfl ⟨rfl, rfl⟩

set_option maxRecDepth 100000 in
theorem nb88 (V167 : Value) : Tri Tryz.prog 224 #[V167] [] [row V167 56 14 ([[.int .i64 1, .int .i64 1, .int .i64 10, .int .i64 1, .int .i64 64, .int .i64 20, .int .i64 1, .int .i64 4, .int .i64 10, .int .i64 5, .int .i64 1, .int .i64 3, .int .i64 2, Value.slice none 0 0]].map id)] (fun v L' => ∃ (V195 : Value), v = .tuple #[V195, .int .i64 0] ∧ L' = [row V167 56 14 ([[.int .i64 1, .int .i64 1, .int .i64 10, .int .i64 1, .int .i64 64, .int .i64 20, .int .i64 1, .int .i64 4, .int .i64 10, .int .i64 5, .int .i64 1, .int .i64 3, .int .i64 2, Value.slice none 0 0]].map id), row V195 3 1 ([[.int .i64 0]].map id)]) := by
 refine Tri.en F224 rfl K224 rfl fun w0 => ?_
 refine J.co 12 rfl ?_
 refine O.l (Lo.ca C299 (nb86 V167) [0] rfl rfl .nil) rfl ?_
 rintro V193 _ ⟨_, ⟨_, rfl, rfl⟩, rfl⟩
 refine O.oo 6 rfl ?_
 refine O.q (Qt.lenM U23 rfl (Src.row 0 rfl)) rfl ?_
 refine O.oc 3 rfl ?_
 refine J.un ?_
 refine J.co 12 rfl ?_
 refine O.l (Lo.ca C280 (nb87 V193) [1] rfl rfl .nil) rfl ?_
 rintro _ _ ⟨_, ⟨rfl, rfl⟩, rfl⟩
 refine O.oo 14 rfl ?_
 refine O.q (Qt.ix U60 Z3 rfl (Src.row 0 rfl) (j := 0) (a := [.int .i64 0]) rfl rfl rfl) rfl ?_
 refine O.l0 (Lo.storeM 0 (j := 0) (off := 0) (vs := [.int .i64 (-1)]) (e := [.int .i64 0]) [.int .i64 (-1)] rfl rfl rfl rfl (by omega) rfl rfl Z3 rfl rfl rfl rfl rfl) ?_
 rintro _ _ rfl
 refine O.oo 6 rfl ?_
 refine O.l (Lo.ca C300 (nb85 V167) [1] rfl rfl .nil) rfl ?_
 rintro _ _ ⟨_, ⟨rfl, rfl⟩, rfl⟩
 refine O.p (Pu.len (A := none) (n := 0) (cap := 0) U60 rfl) rfl ?_
 refine O.oc 3 rfl ?_
 refine J.un ?_
 refine J.co 10 rfl ?_
 refine O.l (Lo.bm id [[.int .i64 0]] U60 Z3 Y3 rfl rfl rfl (by kernel_rfl) rfl rfl) rfl ?_
 rintro V194 _ rfl
 refine O.nr 3 1 (([] : List (List Value)).map id) rfl ?_
 refine O.l (Lo.am 0 N60 info3 rfl rfl rfl rfl rfl (Src.row 1 rfl) (id_one rfl) (Nat.le_of_ble_eq_true rfl) (Nat.le_of_ble_eq_true rfl)) rfl ?_
 rintro V195 _ rfl
 refine O.oo 4 rfl ?_
 refine O.p (Pu.add' rfl rfl (by decide)) rfl ?_
 refine O.oc 2 rfl ?_
 refine J.again ?_
 refine J.cc 13 rfl ?_
 exact J.rn [_, _] [2, 0] rfl ⟨rfl, rfl, trivial⟩ rfl ⟨V195, rfl, rfl⟩

set_option maxRecDepth 100000 in
theorem nb89 (V167 : Value) : Tri Tryz.prog 127 #[V167] [] [row V167 56 14 ([[.int .i64 1, .int .i64 1, .int .i64 10, .int .i64 1, .int .i64 64, .int .i64 20, .int .i64 1, .int .i64 4, .int .i64 10, .int .i64 5, .int .i64 1, .int .i64 3, .int .i64 2, Value.slice none 0 0]].map id)] (fun v L' => v = .int .i64 0 ∧ L' = [row V167 56 14 ([[.int .i64 1, .int .i64 1, .int .i64 10, .int .i64 1, .int .i64 64, .int .i64 20, .int .i64 1, .int .i64 4, .int .i64 10, .int .i64 5, .int .i64 1, .int .i64 3, .int .i64 2, Value.slice none 0 0]].map id)]) := by
 refine Tri.en F127 rfl K127 rfl fun w0 => ?_
 refine J.co 7 rfl ?_
 refine O.l (Lo.ca C224 (nb88 V167) [0] rfl rfl .nil) rfl ?_
 rintro _ _ ⟨_, ⟨V195, rfl, rfl⟩, rfl⟩
 refine O.oc 11 rfl ?_
 exact J.r1 [0] rfl rfl rfl ⟨rfl, rfl⟩

set_option maxRecDepth 100000 in
theorem nb90 (V167 : Value) : Tri Tryz.prog 49 #[.agg #[.int .i64 2, .int .i64 4, .int .i64 1000, .int .u64 1, V167]] [] [row V167 56 14 ([[.int .i64 1, .int .i64 1, .int .i64 10, .int .i64 1, .int .i64 64, .int .i64 20, .int .i64 1, .int .i64 4, .int .i64 10, .int .i64 5, .int .i64 1, .int .i64 3, .int .i64 2, Value.slice none 0 0]].map id)] (fun v L' => v = .int .i64 0 ∧ L' = [row V167 56 14 ([[.int .i64 1, .int .i64 1, .int .i64 10, .int .i64 1, .int .i64 64, .int .i64 20, .int .i64 1, .int .i64 4, .int .i64 10, .int .i64 5, .int .i64 1, .int .i64 3, .int .i64 2, Value.slice none 0 0]].map id)]) := by
 refine Tri.en F49 rfl K49 rfl fun w0 => ?_
 refine J.co 2 rfl ?_
 refine O.one (Src.row 0 rfl) (fun hV174 => ?_)
 refine O.l (Lo.bx rfl rfl) rfl ?_
 rintro _ _ ⟨g173, rfl, rfl⟩
 refine O.oo 5 rfl ?_
 refine O.q (Qt.lv 0 A3 rfl rfl rfl) rfl ?_
 refine O.oo 1 rfl ?_
 refine O.q (Qt.lv 0 A3 rfl rfl rfl) rfl ?_
 refine O.l (Lo.ca C123 nb64 [] rfl rfl .nil) rfl ?_
 rintro _ _ ⟨_, ⟨rfl, rfl⟩, rfl⟩
 refine O.oo 3 rfl ?_
 refine O.l (Lo.al Y184 rfl) rfl ?_
 rintro _ _ ⟨g177, rfl, rfl⟩
 refine O.l0 (Lo.st 0 Z184 rfl rfl rfl rfl rfl rfl rfl) ?_
 rintro _ _ rfl
 refine O.oo 5 rfl ?_
 refine O.q (Qt.lv 1 A22 rfl rfl rfl) rfl ?_
 refine O.oo 1 rfl ?_
 refine O.q (Qt.lv 1 A3 rfl rfl rfl) rfl ?_
 refine O.oo 1 rfl ?_
 refine O.q (Qt.lv 1 A3 rfl rfl rfl) rfl ?_
 refine O.l (Lo.ca C124 nb65 [] rfl rfl .nil) rfl ?_
 rintro _ _ ⟨_, ⟨rfl, rfl⟩, rfl⟩
 refine O.oo 3 rfl ?_
 refine O.l (Lo.al Y188 rfl) rfl ?_
 rintro _ _ ⟨g179, rfl, rfl⟩
 refine O.l0 (Lo.st 0 Z188 rfl rfl rfl rfl rfl rfl rfl) ?_
 rintro _ _ rfl
 refine O.oo 13 rfl ?_
 refine O.gz (Qt.lv 2 A23 rfl rfl rfl) rfl rfl ?_
 refine O.gz (Qt.lenM U23 rfl (Src.row 3 rfl)) rfl rfl ?_
 refine O.oo 9 rfl ?_
 refine O.q (Qt.lv 2 A23 rfl rfl rfl) rfl ?_
 refine O.q (Qt.lenM U23 rfl (Src.row 3 rfl)) rfl ?_
 refine O.oc 3 rfl ?_
 refine J.un ?_
 refine J.co 12 rfl ?_
 refine O.q (Qt.ix U23 Z56 rfl (Src.row 3 rfl) (j := 0) (a := [.int .i64 1, .int .i64 1, .int .i64 10, .int .i64 1, .int .i64 64, .int .i64 20, .int .i64 1, .int .i64 4, .int .i64 10, .int .i64 5, .int .i64 1, .int .i64 3, .int .i64 2, Value.slice none 0 0]) rfl rfl rfl) rfl ?_
 refine O.q (Qt.lea A56 Z56 (Src.row 3 rfl) (j := 0) (a := [.int .i64 1, .int .i64 1, .int .i64 10, .int .i64 1, .int .i64 64, .int .i64 20, .int .i64 1, .int .i64 4, .int .i64 10, .int .i64 5, .int .i64 1, .int .i64 3, .int .i64 2, Value.slice none 0 0]) rfl 0 rfl (by omega) rfl) rfl ?_
 refine O.l (Lo.al Y56 rfl) rfl ?_
 rintro _ _ ⟨g180, rfl, rfl⟩
 refine O.oo 1 rfl ?_
 refine O.l0 (Lo.st 0 Z56 rfl rfl rfl rfl rfl rfl rfl) ?_
 rintro _ _ rfl
 refine O.oc 2 rfl ?_
 refine J.dm [(0, false), (1, false), (2, false), (3, false), (4, false), (5, false), (6, false), (7, true), (8, true), (9, false)] [0, 2, 3, 4] Tryz.mixed (by kernel_rfl) rfl ?_
 refine Mx.q rfl (Qt.lva 0 A56 Z56 rfl rfl rfl) rfl ?_
 refine Mx.r 2 rfl ?_
 refine Mx.q rfl (Qt.lv 2 A23 rfl rfl rfl) rfl ?_
 refine Mx.q rfl (Qt.lenM U23 rfl (Src.row 3 rfl)) rfl ?_
 refine Mx.r 1 rfl ?_
 refine Mx.q rfl (Qt.lva 1 A182 Z182 rfl rfl rfl) rfl ?_
 refine Mx.l rfl (Lo.ca C126 nb66 [] rfl rfl .nil) rfl ?_
 rintro _ _ ⟨_, ⟨rfl, rfl⟩, rfl⟩
 refine MxK.gp [0, 2, 3, 4] [0, 1, 2, 3] rfl rfl ?_
 refine Mx.l rfl (Lo.ca C125 nb84 [] rfl rfl .nil) rfl ?_
 rintro _ _ ⟨_, ⟨rfl, rfl⟩, rfl⟩
 refine MxK.al [0, 2, 3, 4] rfl (by kernel_rfl) ?_
 refine Mx.r 1 rfl ?_
 refine Mx.nil ?_
 refine J.co 9 rfl ?_
 refine O.p (Pu.add' rfl rfl (by decide)) rfl ?_
 refine O.oc 2 rfl ?_
 refine J.again ?_
 refine J.co 10 rfl ?_
 refine O.q (Qt.lv 3 A23 rfl rfl rfl) rfl ?_
 refine O.l (Lo.ca C127 (nb89 V167) [4] rfl rfl .nil) rfl ?_
 rintro _ _ ⟨_, ⟨rfl, rfl⟩, rfl⟩
 refine O.oc 2 rfl ?_
 exact J.r1 [0] rfl rfl rfl ⟨rfl, rfl⟩

set_option maxRecDepth 100000 in
theorem nb91 : Tri Tryz.prog 50 #[] [] [] (fun v L' => ∃ (g198 : Nat) (b196 : Nat) (b197 : Nat), v = .pointer (some ⟨g198, 0, none⟩) ∧ L' = [var g198 [.map (some b196), .map (some b197)] 195, mi b196 (Value.int .i64) ([] : List (Int × Int)), mi b197 vO ([] : List (Int × (Nat × List (Int × Int))))]) := by
 refine Tri.en F50 rfl K50 rfl fun w0 => ?_
 refine J.co 6 rfl ?_
 refine O.l (Lo.makeMapI (Value.int .i64)) rfl ?_
 rintro _ _ ⟨b196, rfl, rfl⟩
 refine O.l (Lo.makeMapI vO) rfl ?_
 rintro _ _ ⟨b197, rfl, rfl⟩
 refine O.p (Pu.build [(0, .map (some b196)), (1, .map (some b197))] [.map (some b196), .map (some b197)] #[(0, 1), (1, 1)] U195 Y195 (places195 N195) rfl (by kernel_rfl)) rfl ?_
 refine O.l (Lo.bx rfl rfl) rfl ?_
 rintro _ _ ⟨g198, rfl, rfl⟩
 refine O.oc 2 rfl ?_
 exact J.r1 [0, 2, 1] rfl rfl rfl ⟨g198, b196, b197, rfl, rfl⟩

set_option maxRecDepth 100000 in
theorem nb92 : Tri Tryz.prog 199 #[.int .i64 2, .int .i64 2147483647] [] [] (fun v L' => v = .int .i64 2 ∧ L' = []) := by
 refine Tri.en F199 rfl K199 rfl fun w0 => ?_
 refine J.co 8 rfl ?_
 refine O.p (Pu.min rfl rfl) rfl ?_
 refine O.p (Pu.max rfl rfl) rfl ?_
 refine O.oc 2 rfl ?_
 exact J.r0 rfl rfl ⟨rfl, rfl⟩

set_option maxRecDepth 100000 in
theorem nb93 : Tri Tryz.prog 199 #[.int .i64 4, .int .i64 2147483647] [] [] (fun v L' => v = .int .i64 4 ∧ L' = []) := by
 refine Tri.en F199 rfl K199 rfl fun w0 => ?_
 refine J.co 8 rfl ?_
 refine O.p (Pu.min rfl rfl) rfl ?_
 refine O.p (Pu.max rfl rfl) rfl ?_
 refine O.oc 2 rfl ?_
 exact J.r0 rfl rfl ⟨rfl, rfl⟩

set_option maxRecDepth 100000 in
theorem nb94 : Tri Tryz.prog 227 #[.int .i64 2, .int .i64 4] [] [] (fun v L' => v = .int .i64 8 ∧ L' = []) := by
 refine Tri.en F227 rfl K227 rfl fun w0 => ?_
 refine J.co 8 rfl ?_
 refine O.p (Pu.mul' rfl rfl (by decide)) rfl ?_
 refine O.oc 2 rfl ?_
 exact J.r0 rfl rfl ⟨rfl, rfl⟩

set_option maxRecDepth 100000 in
theorem nb95 : Tri Tryz.prog 199 #[.int .i64 8, .int .i64 2147483647] [] [] (fun v L' => v = .int .i64 8 ∧ L' = []) := by
 refine Tri.en F199 rfl K199 rfl fun w0 => ?_
 refine J.co 8 rfl ?_
 refine O.p (Pu.min rfl rfl) rfl ?_
 refine O.p (Pu.max rfl rfl) rfl ?_
 refine O.oc 2 rfl ?_
 exact J.r0 rfl rfl ⟨rfl, rfl⟩

set_option maxRecDepth 100000 in
theorem nb96 : Tri Tryz.prog 226 #[.int .i64 2, .int .i64 4, .func (.func 227) #[] #[]] [] [] (fun v L' => v = .int .i64 8 ∧ L' = []) := by
 refine Tri.en F226 rfl K226 rfl fun w0 => ?_
 refine J.co 8 rfl ?_
 refine O.l (Lo.ca C199 nb92 [] rfl rfl .nil) rfl ?_
 rintro _ _ ⟨_, ⟨rfl, rfl⟩, rfl⟩
 refine O.oo 1 rfl ?_
 refine O.l (Lo.ca C199 nb93 [] rfl rfl .nil) rfl ?_
 rintro _ _ ⟨_, ⟨rfl, rfl⟩, rfl⟩
 refine O.l (Lo.cv C227 rfl rfl nb94 [] rfl .nil) rfl ?_
 rintro _ _ ⟨_, ⟨rfl, rfl⟩, rfl⟩
 refine O.l (Lo.ca C199 nb95 [] rfl rfl .nil) rfl ?_
 rintro _ _ ⟨_, ⟨rfl, rfl⟩, rfl⟩
 refine O.oc 2 rfl ?_
 exact J.r0 rfl rfl ⟨rfl, rfl⟩

set_option maxRecDepth 100000 in
theorem nb97 : Tri Tryz.prog 133 #[.int .i64 2, .int .i64 4] [] [] (fun v L' => v = .int .i64 8 ∧ L' = []) := by
 refine Tri.en F133 rfl K133 rfl fun w0 => ?_
 refine J.co 8 rfl ?_
 refine O.l (Lo.ca C226 nb96 [] rfl rfl .nil) rfl ?_
 rintro _ _ ⟨_, ⟨rfl, rfl⟩, rfl⟩
 refine O.oc 2 rfl ?_
 exact J.r0 rfl rfl ⟨rfl, rfl⟩

set_option maxRecDepth 100000 in
theorem nb98 (V167 : Value) : Tri Tryz.prog 52 #[.agg #[.int .i64 2, .int .i64 4, .int .i64 1000, .int .u64 1, V167]] [] [row V167 56 14 ([[.int .i64 1, .int .i64 1, .int .i64 10, .int .i64 1, .int .i64 64, .int .i64 20, .int .i64 1, .int .i64 4, .int .i64 10, .int .i64 5, .int .i64 1, .int .i64 3, .int .i64 2, Value.slice none 0 0]].map id)] (fun v L' => v = .int .i64 8 ∧ L' = [row V167 56 14 ([[.int .i64 1, .int .i64 1, .int .i64 10, .int .i64 1, .int .i64 64, .int .i64 20, .int .i64 1, .int .i64 4, .int .i64 10, .int .i64 5, .int .i64 1, .int .i64 3, .int .i64 2, Value.slice none 0 0]].map id)]) := by
 refine Tri.en F52 rfl K52 rfl fun w0 => ?_
 refine J.co 2 rfl ?_
 refine O.one (Src.row 0 rfl) (fun hV208 => ?_)
 refine O.l (Lo.bx rfl rfl) rfl ?_
 rintro _ _ ⟨g207, rfl, rfl⟩
 refine O.oo 5 rfl ?_
 refine O.q (Qt.lv 0 A3 rfl rfl rfl) rfl ?_
 refine O.oo 1 rfl ?_
 refine O.q (Qt.lv 0 A3 rfl rfl rfl) rfl ?_
 refine O.l (Lo.ca C133 nb97 [] rfl rfl .nil) rfl ?_
 rintro _ _ ⟨_, ⟨rfl, rfl⟩, rfl⟩
 refine O.oc 2 rfl ?_
 exact J.r1 [1] rfl rfl rfl ⟨rfl, rfl⟩

set_option maxRecDepth 100000 in
theorem nb99 : Tri Tryz.prog 128 #[.int .i64 8] [] [] (fun v L' => ∃ (g210 : Nat), v = .tuple #[.pointer (some ⟨g210, 0, none⟩), .int .i64 0] ∧ L' = [var g210 (.int .i64 8 :: (rp 128 (.int .i64 0) [])) 302]) := by
 refine Tri.en F128 rfl K128 rfl fun w0 => ?_
 refine J.co 20 rfl ?_
 refine O.p (Pu.build [(0, .int .i64 8)] (.int .i64 8 :: (rp 128 (.int .i64 0) [])) #[(0, 1), (1, 128)] U302 Y302 (places302 N302) rfl (by kernel_rfl)) rfl ?_
 refine O.l (Lo.bx rfl rfl) rfl ?_
 rintro _ _ ⟨g210, rfl, rfl⟩
 refine O.oc 3 rfl ?_
 exact J.rn [_, _] [0] rfl ⟨rfl, rfl, trivial⟩ rfl ⟨g210, rfl, rfl⟩

set_option maxRecDepth 100000 in
theorem nb100 (g211 : Nat) : Tri Tryz.prog 218 #[.pointer (some ⟨g211, 0, none⟩)] [] [var g211 [.bool true, .int .i64 1, .int .i64 0, .int .i64 0] 296] (fun v L' => v = .tuple #[] ∧ L' = [var g211 [.bool true, .int .i64 1, .int .i64 1, .int .i64 32] 296]) := by
 refine Tri.en F218 rfl K218 rfl fun w0 => ?_
 refine J.co 3 rfl ?_
 refine O.p (Pu.ptrNe N168 rfl) rfl ?_
 refine O.oo 4 rfl ?_
 refine O.gz (Qt.lv 0 A4 rfl rfl rfl) rfl rfl ?_
 refine O.oo 9 rfl ?_
 refine O.q (Qt.lv 0 A3 rfl rfl rfl) rfl ?_
 refine O.oo 2 rfl ?_
 refine O.l0 (Lo.st 0 Z3 rfl rfl rfl rfl rfl rfl rfl) ?_
 rintro _ _ rfl
 refine O.oo 2 rfl ?_
 refine O.l0 (Lo.st 0 Z3 rfl rfl rfl rfl rfl rfl rfl) ?_
 rintro _ _ rfl
 refine O.oc 1 rfl ?_
 exact J.dn [] [0] rfl trivial rfl ⟨rfl, rfl⟩

set_option maxRecDepth 100000 in
theorem nb101 : Tri Tryz.prog 129 #[.int .i64 1] [] [] (fun v L' => ∃ (g211 : Nat), v = .tuple #[.pointer (some ⟨g211, 0, none⟩), .int .i64 0] ∧ L' = [var g211 [.bool true, .int .i64 1, .int .i64 1, .int .i64 32] 296]) := by
 refine Tri.en F129 rfl K129 rfl fun w0 => ?_
 refine J.co 20 rfl ?_
 refine O.p (Pu.build [(0, .bool true), (1, .int .i64 1)] [.bool true, .int .i64 1, .int .i64 0, .int .i64 0] #[(0, 1), (1, 1), (2, 1), (3, 1)] U296 Y296 (places296 N296) rfl (by kernel_rfl)) rfl ?_
 refine O.l (Lo.bx rfl rfl) rfl ?_
 rintro _ _ ⟨g211, rfl, rfl⟩
 refine O.oo 5 rfl ?_
 refine O.l (Lo.ca C218 (nb100 g211) [0] rfl rfl .nil) rfl ?_
 rintro _ _ ⟨_, ⟨rfl, rfl⟩, rfl⟩
 refine O.oc 7 rfl ?_
 exact J.rn [_, _] [0] rfl ⟨rfl, rfl, trivial⟩ rfl ⟨g211, rfl, rfl⟩

set_option maxRecDepth 100000 in
theorem nb102 : Tri Tryz.prog 131 #[] [] [] (fun v L' => ∃ (g212 : Nat), v = .pointer (some ⟨g212, 0, none⟩) ∧ L' = [var g212 [.int .i64 0, .int .i64 0] 309]) := by
 refine Tri.en F131 rfl K131 rfl fun w0 => ?_
 refine J.co 6 rfl ?_
 refine O.p (Pu.build [] [.int .i64 0, .int .i64 0] #[(0, 1), (1, 1)] U309 Y309 (places309 N309) rfl (by kernel_rfl)) rfl ?_
 refine O.l (Lo.bx rfl rfl) rfl ?_
 rintro _ _ ⟨g212, rfl, rfl⟩
 refine O.oc 2 rfl ?_
 exact J.r1 [0] rfl rfl rfl ⟨g212, rfl, rfl⟩

set_option maxRecDepth 100000 in
theorem nb103 : Tri Tryz.prog 132 #[] [] [] (fun v L' => ∃ (g213 : Nat), v = .pointer (some ⟨g213, 0, none⟩) ∧ L' = [var g213 [.int .i64 0, .int .i64 0, .int .i64 0] 311]) := by
 refine Tri.en F132 rfl K132 rfl fun w0 => ?_
 refine J.co 6 rfl ?_
 refine O.p (Pu.build [] [.int .i64 0, .int .i64 0, .int .i64 0] #[(0, 3)] U311 Y311 (places311 N311) rfl (by kernel_rfl)) rfl ?_
 refine O.l (Lo.bx rfl rfl) rfl ?_
 rintro _ _ ⟨g213, rfl, rfl⟩
 refine O.oc 2 rfl ?_
 exact J.r1 [0] rfl rfl rfl ⟨g213, rfl, rfl⟩

set_option maxRecDepth 100000 in
theorem nb104 : Tri Tryz.prog 51 #[.int .i64 8, .int .i64 1, .agg #[.int .i64 1, .int .i64 4, .int .i64 10, .int .i64 5, .int .i64 1, .int .i64 3, .int .i64 2]] [] [] (fun v L' => ∃ (g214 : Nat) (g212 : Nat) (g211 : Nat) (g210 : Nat) (g213 : Nat), v = .tuple #[.pointer (some ⟨g214, 0, none⟩), .int .i64 0] ∧ L' = [var g214 [.pointer (some ⟨g212, 0, none⟩), .pointer (some ⟨g211, 0, none⟩), .int .i64 8, .int .i64 1, .int .i64 1, .int .i64 4, .int .i64 10, .int .i64 5, .int .i64 1, .int .i64 3, .int .i64 2, .pointer (some ⟨g210, 0, none⟩), .pointer (some ⟨g213, 0, none⟩), .int .i64 8, .int .i64 1] 172, var g212 [.int .i64 0, .int .i64 0] 309, var g211 [.bool true, .int .i64 1, .int .i64 1, .int .i64 32] 296, var g210 (.int .i64 8 :: (rp 128 (.int .i64 0) [])) 302, var g213 [.int .i64 0, .int .i64 0, .int .i64 0] 311]) := by
 refine Tri.en F51 rfl K51 rfl fun w0 => ?_
 refine J.co 2 rfl ?_
 refine O.l (Lo.bx rfl rfl) rfl ?_
 rintro _ _ ⟨g209, rfl, rfl⟩
 refine O.oo 6 rfl ?_
 refine O.l (Lo.ca C128 nb99 [] rfl rfl .nil) rfl ?_
 rintro _ _ ⟨_, ⟨g210, rfl, rfl⟩, rfl⟩
 refine O.oo 17 rfl ?_
 refine O.l (Lo.ca C129 nb101 [] rfl rfl .nil) rfl ?_
 rintro _ _ ⟨_, ⟨g211, rfl, rfl⟩, rfl⟩
 refine O.oo 17 rfl ?_
 refine O.q (Qt.lva 2 A45 Z45 rfl rfl rfl) rfl ?_
 refine O.oo 1 rfl ?_
 refine O.l (Lo.ca C130 nb83 [] rfl rfl .nil) rfl ?_
 rintro _ _ ⟨_, ⟨rfl, rfl⟩, rfl⟩
 refine O.oc 10 rfl ?_
 refine J.dm [(1, false), (2, false), (3, false), (4, false), (5, false), (7, false), (0, true), (6, true), (8, false), (9, true), (10, false), (11, false)] [2] Tryz.mixed (by kernel_rfl) rfl ?_
 refine Mx.r 3 rfl ?_
 refine Mx.q rfl (Qt.lva 0 A45 Z45 rfl rfl rfl) rfl ?_
 refine Mx.r 2 rfl ?_
 refine Mx.l rfl (Lo.ca C131 nb102 [] rfl rfl .nil) rfl ?_
 rintro _ _ ⟨_, ⟨g212, rfl, rfl⟩, rfl⟩
 refine MxK.gp [3] [0] rfl rfl ?_
 refine Mx.l rfl (Lo.ca C132 nb103 [] rfl rfl .nil) rfl ?_
 rintro _ _ ⟨_, ⟨g213, rfl, rfl⟩, rfl⟩
 refine MxK.gp [4] [0] rfl rfl ?_
 refine Mx.p rfl (Pu.build [(0, .pointer (some ⟨g212, 0, none⟩)), (1, .pointer (some ⟨g211, 0, none⟩)), (2, .int .i64 8), (3, .int .i64 1), (4, .agg #[.int .i64 1, .int .i64 4, .int .i64 10, .int .i64 5, .int .i64 1, .int .i64 3, .int .i64 2]), (5, .pointer (some ⟨g210, 0, none⟩)), (6, .pointer (some ⟨g213, 0, none⟩)), (7, .int .i64 8), (8, .int .i64 1)] [.pointer (some ⟨g212, 0, none⟩), .pointer (some ⟨g211, 0, none⟩), .int .i64 8, .int .i64 1, .int .i64 1, .int .i64 4, .int .i64 10, .int .i64 5, .int .i64 1, .int .i64 3, .int .i64 2, .pointer (some ⟨g210, 0, none⟩), .pointer (some ⟨g213, 0, none⟩), .int .i64 8, .int .i64 1] #[(0, 1), (1, 1), (2, 1), (3, 1), (4, 7), (11, 1), (12, 1), (13, 1), (14, 1)] U172 Y172 (places172 N172) rfl (by kernel_rfl)) rfl ?_
 refine Mx.l rfl (Lo.bx rfl rfl) rfl ?_
 rintro _ _ ⟨g214, rfl, rfl⟩
 refine MxK.al [5] rfl (by kernel_rfl) ?_
 refine Mx.r 2 rfl ?_
 refine Mx.nil ?_
 exact J.rn [_, _] [0, 2, 3, 4, 1] rfl ⟨rfl, rfl, trivial⟩ rfl ⟨g214, g212, g211, g210, g213, rfl, rfl⟩

set_option maxRecDepth 100000 in
theorem nb105 : Tri Tryz.prog 53 #[.int .i64 64] [] [] (fun v L' => ∃ (g218 : Nat) (V215 : Value) (b216 : Nat), v = .tuple #[.pointer (some ⟨g218, 0, none⟩), .int .i64 0] ∧ L' = [var g218 [V215, .int .i64 0, .int .i64 0, .map (some b216)] 180, row V215 3 1 ([[.int .i64 0], [.int .i64 0], [.int .i64 0], [.int .i64 0], [.int .i64 0], [.int .i64 0], [.int .i64 0], [.int .i64 0], [.int .i64 0], [.int .i64 0], [.int .i64 0], [.int .i64 0], [.int .i64 0], [.int .i64 0], [.int .i64 0], [.int .i64 0], [.int .i64 0], [.int .i64 0], [.int .i64 0], [.int .i64 0], [.int .i64 0], [.int .i64 0], [.int .i64 0], [.int .i64 0], [.int .i64 0], [.int .i64 0], [.int .i64 0], [.int .i64 0], [.int .i64 0], [.int .i64 0], [.int .i64 0], [.int .i64 0], [.int .i64 0], [.int .i64 0], [.int .i64 0], [.int .i64 0], [.int .i64 0], [.int .i64 0], [.int .i64 0], [.int .i64 0], [.int .i64 0], [.int .i64 0], [.int .i64 0], [.int .i64 0], [.int .i64 0], [.int .i64 0], [.int .i64 0], [.int .i64 0], [.int .i64 0], [.int .i64 0], [.int .i64 0], [.int .i64 0], [.int .i64 0], [.int .i64 0], [.int .i64 0], [.int .i64 0], [.int .i64 0], [.int .i64 0], [.int .i64 0], [.int .i64 0], [.int .i64 0], [.int .i64 0], [.int .i64 0], [.int .i64 0]].map id), mi b216 (Value.int .i64) ([] : List (Int × Int))]) := by
 refine Tri.en F53 rfl K53 rfl fun w0 => ?_
 refine J.co 20 rfl ?_
 refine O.l (Lo.makeSlice (n := 64) (s := 1) (bytes := 8) ((List.replicate 64 [.int .i64 0]).map id) U60 (fun w => run_typeInfo w (info3).1) (info3).2.2.2 Z3 Y3 rfl rfl rfl rfl rfl (by kernel_rfl) rfl rfl) rfl ?_
 rintro V215 _ rfl
 refine O.l (Lo.makeMapI (Value.int .i64)) rfl ?_
 rintro _ _ ⟨b216, rfl, rfl⟩
 refine O.one (Src.row 1 rfl) (fun hV217 => ?_)
 refine O.p (Pu.build [(0, V215), (3, .map (some b216))] [V215, .int .i64 0, .int .i64 0, .map (some b216)] #[(0, 1), (1, 1), (2, 1), (3, 1)] U180 Y180 (places180 N180) rfl (by cases V215 <;> first | (simp [Value.oneCell'] at hV217; done) | (kernel_rfl; done))) rfl ?_
 refine O.l (Lo.bx rfl rfl) rfl ?_
 rintro _ _ ⟨g218, rfl, rfl⟩
 refine O.oc 3 rfl ?_
 exact J.rn [_, _] [0, 2, 1] rfl ⟨rfl, rfl, trivial⟩ rfl ⟨g218, V215, b216, rfl, rfl⟩

set_option maxRecDepth 100000 in
theorem nb106 : Tri Tryz.prog 134 #[.int .i64 1] [] [] (fun v L' => ∃ (g220 : Nat) (b219 : Nat), v = .tuple #[.pointer (some ⟨g220, 0, none⟩), .int .i64 0] ∧ L' = [var g220 [.map (some b219), .int .i64 1, Value.slice none 0 0] 294, mi b219 (Value.int .i64) ([] : List (Int × Int))]) := by
 refine Tri.en F134 rfl K134 rfl fun w0 => ?_
 refine J.co 19 rfl ?_
 refine O.l (Lo.makeMapI (Value.int .i64)) rfl ?_
 rintro _ _ ⟨b219, rfl, rfl⟩
 refine O.p (Pu.build [(0, .map (some b219))] [.map (some b219)] #[(0, 1)] U292 Y292 (places292 N292) rfl (by kernel_rfl)) rfl ?_
 refine O.oo 1 rfl ?_
 refine O.p (Pu.build [(0, .agg #[.map (some b219)]), (1, .int .i64 1)] [.map (some b219), .int .i64 1, Value.slice none 0 0] #[(0, 1), (1, 1), (2, 1)] U294 Y294 (places294 N294) rfl (by kernel_rfl)) rfl ?_
 refine O.l (Lo.bx rfl rfl) rfl ?_
 rintro _ _ ⟨g220, rfl, rfl⟩
 refine O.oc 3 rfl ?_
 exact J.rn [_, _] [0, 1] rfl ⟨rfl, rfl, trivial⟩ rfl ⟨g220, b219, rfl, rfl⟩

set_option maxRecDepth 100000 in
theorem nb107 : Tri Tryz.prog 54 #[.int .i64 1] [] [] (fun v L' => ∃ (g221 : Nat) (g220 : Nat) (b219 : Nat), v = .tuple #[.pointer (some ⟨g221, 0, none⟩), .int .i64 0] ∧ L' = [var g221 [.pointer (some ⟨g220, 0, none⟩), .int .i64 1] 206, var g220 [.map (some b219), .int .i64 1, Value.slice none 0 0] 294, mi b219 (Value.int .i64) ([] : List (Int × Int))]) := by
 refine Tri.en F54 rfl K54 rfl fun w0 => ?_
 refine J.co 16 rfl ?_
 refine O.l (Lo.ca C134 nb106 [] rfl rfl .nil) rfl ?_
 rintro _ _ ⟨_, ⟨g220, b219, rfl, rfl⟩, rfl⟩
 refine O.oo 18 rfl ?_
 refine O.p (Pu.build [(0, .pointer (some ⟨g220, 0, none⟩)), (1, .int .i64 1)] [.pointer (some ⟨g220, 0, none⟩), .int .i64 1] #[(0, 1), (1, 1)] U206 Y206 (places206 N206) rfl (by kernel_rfl)) rfl ?_
 refine O.l (Lo.bx rfl rfl) rfl ?_
 rintro _ _ ⟨g221, rfl, rfl⟩
 refine O.oc 3 rfl ?_
 exact J.rn [_, _] [0, 1, 2] rfl ⟨rfl, rfl, trivial⟩ rfl ⟨g221, g220, b219, rfl, rfl⟩

set_option maxRecDepth 100000 in
theorem nb108 : Tri Tryz.prog 55 #[.int .i64 1] [] [] (fun v L' => ∃ (g222 : Nat), v = .tuple #[.pointer (some ⟨g222, 0, none⟩), .int .i64 0] ∧ L' = [var g222 (.int .i64 1 :: (rp 16 (Value.pointer none) [])) 210]) := by
 refine Tri.en F55 rfl K55 rfl fun w0 => ?_
 refine J.co 20 rfl ?_
 refine O.p (Pu.build [(0, .int .i64 1)] (.int .i64 1 :: (rp 16 (Value.pointer none) [])) #[(0, 1), (1, 16)] U210 Y210 (places210 N210) rfl (by kernel_rfl)) rfl ?_
 refine O.l (Lo.bx rfl rfl) rfl ?_
 rintro _ _ ⟨g222, rfl, rfl⟩
 refine O.oc 3 rfl ?_
 exact J.rn [_, _] [0] rfl ⟨rfl, rfl, trivial⟩ rfl ⟨g222, rfl, rfl⟩

set_option maxRecDepth 100000 in
theorem nb109 : Tri Tryz.prog 56 #[.int .i64 20] [] [] (fun v L' => ∃ (g223 : Nat), v = .tuple #[.pointer (some ⟨g223, 0, none⟩), .int .i64 0] ∧ L' = [var g223 [.bool true, .int .i64 20, .bool false, .int .i64 0, .int .i64 0, .int .i64 0, .int .i64 0, .bool false, .int .i64 0, .int .i64 0, .int .i64 0, .int .i64 0, .bool false, .int .i64 0, .int .i64 0, .int .i64 0, .int .i64 0, .bool false, .int .i64 0, .int .i64 0, .int .i64 0, .int .i64 0, .bool false, .int .i64 0, .int .i64 0, .int .i64 0, .int .i64 0, .bool false, .int .i64 0, .int .i64 0, .int .i64 0, .int .i64 0, .bool false, .int .i64 0, .int .i64 0, .int .i64 0, .int .i64 0, .bool false, .int .i64 0, .int .i64 0, .int .i64 0, .int .i64 0] 215]) := by
 refine Tri.en F56 rfl K56 rfl fun w0 => ?_
 refine J.co 20 rfl ?_
 refine O.p (Pu.build [(0, .bool true), (1, .int .i64 20)] [.bool true, .int .i64 20, .bool false, .int .i64 0, .int .i64 0, .int .i64 0, .int .i64 0, .bool false, .int .i64 0, .int .i64 0, .int .i64 0, .int .i64 0, .bool false, .int .i64 0, .int .i64 0, .int .i64 0, .int .i64 0, .bool false, .int .i64 0, .int .i64 0, .int .i64 0, .int .i64 0, .bool false, .int .i64 0, .int .i64 0, .int .i64 0, .int .i64 0, .bool false, .int .i64 0, .int .i64 0, .int .i64 0, .int .i64 0, .bool false, .int .i64 0, .int .i64 0, .int .i64 0, .int .i64 0, .bool false, .int .i64 0, .int .i64 0, .int .i64 0, .int .i64 0] #[(0, 1), (1, 1), (2, 40)] U215 Y215 (places215 N215) rfl (by kernel_rfl)) rfl ?_
 refine O.l (Lo.bx rfl rfl) rfl ?_
 rintro _ _ ⟨g223, rfl, rfl⟩
 refine O.oc 3 rfl ?_
 exact J.rn [_, _] [0] rfl ⟨rfl, rfl, trivial⟩ rfl ⟨g223, rfl, rfl⟩

set_option maxRecDepth 100000 in
theorem nb110 (V167 : Value) : Tri Tryz.prog 23 #[.agg #[.int .i64 2, .int .i64 4, .int .i64 1000, .int .u64 1, V167], .int .i64 0] [] [row V167 56 14 ([[.int .i64 1, .int .i64 1, .int .i64 10, .int .i64 1, .int .i64 64, .int .i64 20, .int .i64 1, .int .i64 4, .int .i64 10, .int .i64 5, .int .i64 1, .int .i64 3, .int .i64 2, Value.slice none 0 0]].map id)] (fun v L' => ∃ (g228 : Nat) (g235 : Nat) (V230 : Value) (V233 : Value) (g240 : Nat) (g243 : Nat) (g246 : Nat) (b224 : Nat) (g225 : Nat) (g247 : Nat) (g236 : Nat) (g237 : Nat) (g238 : Nat) (g239 : Nat) (V241 : Value) (b242 : Nat) (g244 : Nat) (b226 : Nat) (b227 : Nat) (b245 : Nat), v = .tuple #[.pointer (some ⟨g228, 0, none⟩), .int .i64 0] ∧ L' = [row V167 56 14 ([[.int .i64 1, .int .i64 1, .int .i64 10, .int .i64 1, .int .i64 64, .int .i64 20, .int .i64 1, .int .i64 4, .int .i64 10, .int .i64 5, .int .i64 1, .int .i64 3, .int .i64 2, Value.slice none 0 0]].map id), var g228 [.pointer (some ⟨g235, 0, none⟩), .int .i64 2, .int .i64 4, .int .i64 1000, .int .u64 1, V230, .int .i64 0, .int .i64 1, .int .i64 1, .int .i64 10, .int .i64 1, .int .i64 64, .int .i64 20, .int .i64 1, .int .i64 4, .int .i64 10, .int .i64 5, .int .i64 1, .int .i64 3, .int .i64 2, V233, .int .i64 0, .int .i64 0, .int .i64 0, .int .i64 0, .pointer (some ⟨g240, 0, none⟩), .pointer (some ⟨g243, 0, none⟩), .pointer (some ⟨g246, 0, none⟩), .map (some b224), .pointer (some ⟨g225, 0, none⟩), .pointer (some ⟨g247, 0, none⟩)] 90, var g235 [.pointer (some ⟨g236, 0, none⟩), .pointer (some ⟨g237, 0, none⟩), .int .i64 8, .int .i64 1, .int .i64 1, .int .i64 4, .int .i64 10, .int .i64 5, .int .i64 1, .int .i64 3, .int .i64 2, .pointer (some ⟨g238, 0, none⟩), .pointer (some ⟨g239, 0, none⟩), .int .i64 8, .int .i64 1] 172, row V230 56 14 ([[.int .i64 1, .int .i64 1, .int .i64 10, .int .i64 1, .int .i64 64, .int .i64 20, .int .i64 1, .int .i64 4, .int .i64 10, .int .i64 5, .int .i64 1, .int .i64 3, .int .i64 2, Value.slice none 0 0]].map id), row V233 136 4 (([] : List (List Value)).map id), var g240 [V241, .int .i64 0, .int .i64 0, .map (some b242)] 180, var g243 [.pointer (some ⟨g244, 0, none⟩), .int .i64 1] 206, var g246 (.int .i64 1 :: (rp 16 (Value.pointer none) [])) 210, mi b224 (id : Value → Value) ([] : List (Int × Value)), var g225 [.map (some b226), .map (some b227)] 195, var g247 [.bool true, .int .i64 20, .bool false, .int .i64 0, .int .i64 0, .int .i64 0, .int .i64 0, .bool false, .int .i64 0, .int .i64 0, .int .i64 0, .int .i64 0, .bool false, .int .i64 0, .int .i64 0, .int .i64 0, .int .i64 0, .bool false, .int .i64 0, .int .i64 0, .int .i64 0, .int .i64 0, .bool false, .int .i64 0, .int .i64 0, .int .i64 0, .int .i64 0, .bool false, .int .i64 0, .int .i64 0, .int .i64 0, .int .i64 0, .bool false, .int .i64 0, .int .i64 0, .int .i64 0, .int .i64 0, .bool false, .int .i64 0, .int .i64 0, .int .i64 0, .int .i64 0] 215, var g236 [.int .i64 0, .int .i64 0] 309, var g237 [.bool true, .int .i64 1, .int .i64 1, .int .i64 32] 296, var g238 (.int .i64 8 :: (rp 128 (.int .i64 0) [])) 302, var g239 [.int .i64 0, .int .i64 0, .int .i64 0] 311, row V241 3 1 ([[.int .i64 0], [.int .i64 0], [.int .i64 0], [.int .i64 0], [.int .i64 0], [.int .i64 0], [.int .i64 0], [.int .i64 0], [.int .i64 0], [.int .i64 0], [.int .i64 0], [.int .i64 0], [.int .i64 0], [.int .i64 0], [.int .i64 0], [.int .i64 0], [.int .i64 0], [.int .i64 0], [.int .i64 0], [.int .i64 0], [.int .i64 0], [.int .i64 0], [.int .i64 0], [.int .i64 0], [.int .i64 0], [.int .i64 0], [.int .i64 0], [.int .i64 0], [.int .i64 0], [.int .i64 0], [.int .i64 0], [.int .i64 0], [.int .i64 0], [.int .i64 0], [.int .i64 0], [.int .i64 0], [.int .i64 0], [.int .i64 0], [.int .i64 0], [.int .i64 0], [.int .i64 0], [.int .i64 0], [.int .i64 0], [.int .i64 0], [.int .i64 0], [.int .i64 0], [.int .i64 0], [.int .i64 0], [.int .i64 0], [.int .i64 0], [.int .i64 0], [.int .i64 0], [.int .i64 0], [.int .i64 0], [.int .i64 0], [.int .i64 0], [.int .i64 0], [.int .i64 0], [.int .i64 0], [.int .i64 0], [.int .i64 0], [.int .i64 0], [.int .i64 0], [.int .i64 0]].map id), mi b242 (Value.int .i64) ([] : List (Int × Int)), var g244 [.map (some b245), .int .i64 1, Value.slice none 0 0] 294, mi b226 (Value.int .i64) ([] : List (Int × Int)), mi b227 vO ([] : List (Int × (Nat × List (Int × Int)))), mi b245 (Value.int .i64) ([] : List (Int × Int))]) := by
 refine Tri.en F23 rfl K23 rfl fun w0 => ?_
 refine J.co 2 rfl ?_
 refine O.one (Src.row 0 rfl) (fun hV172 => ?_)
 refine O.l (Lo.bx rfl rfl) rfl ?_
 rintro _ _ ⟨g171, rfl, rfl⟩
 refine O.oo 6 rfl ?_
 refine O.q (Qt.lva 0 A25 Z25 rfl rfl rfl) rfl ?_
 refine O.l (Lo.ca C49 (nb90 V167) [1] rfl rfl .nil) rfl ?_
 rintro _ _ ⟨_, ⟨rfl, rfl⟩, rfl⟩
 refine O.oo 17 rfl ?_
 refine O.gz (Qt.lv 1 A23 rfl rfl rfl) rfl rfl ?_
 refine O.gz (Qt.lenM U23 rfl (Src.row 0 rfl)) rfl rfl ?_
 refine O.oc 6 rfl ?_
 refine J.drawA Tryz.mixed ?_
 refine A.edge 7 8 rfl ?_ ?_
 ·
  refine A.mx [(0, false), (1, false), (2, false), (3, false), (4, false), (5, false), (6, false), (8, true), (7, true), (9, false), (10, true), (11, false)] [0, 1] (by kernel_rfl) rfl ?_
  refine Mx.q rfl (Qt.lva 1 A25 Z25 rfl rfl rfl) rfl ?_
  refine Mx.r 2 rfl ?_
  refine Mx.q rfl (Qt.lv 1 A23 rfl rfl rfl) rfl ?_
  refine Mx.r 1 rfl ?_
  refine Mx.q rfl (Qt.ix U23 Z56 rfl (Src.row 0 rfl) (j := 0) (a := [.int .i64 1, .int .i64 1, .int .i64 10, .int .i64 1, .int .i64 64, .int .i64 20, .int .i64 1, .int .i64 4, .int .i64 10, .int .i64 5, .int .i64 1, .int .i64 3, .int .i64 2, Value.slice none 0 0]) rfl rfl rfl) rfl ?_
  refine Mx.q rfl (Qt.lea A56 Z56 (Src.row 0 rfl) (j := 0) (a := [.int .i64 1, .int .i64 1, .int .i64 10, .int .i64 1, .int .i64 64, .int .i64 20, .int .i64 1, .int .i64 4, .int .i64 10, .int .i64 5, .int .i64 1, .int .i64 3, .int .i64 2, Value.slice none 0 0]) rfl 0 rfl (by omega) rfl) rfl ?_
  refine Mx.l rfl (Lo.ca C50 nb91 [] rfl rfl .nil) rfl ?_
  rintro _ _ ⟨_, ⟨g198, b196, b197, rfl, rfl⟩, rfl⟩
  refine MxK.gp [3, 4] [0, 1] rfl rfl ?_
  refine Mx.l rfl (Lo.makeMapI (id : Value → Value)) rfl ?_
  rintro _ _ ⟨b199, rfl, rfl⟩
  refine MxK.gp [4, 5] [0, 1] rfl rfl ?_
  refine Mx.p rfl (Pu.build [(1, .agg #[.int .i64 2, .int .i64 4, .int .i64 1000, .int .u64 1, V167]), (2, .int .i64 0), (3, .agg #[.int .i64 1, .int .i64 1, .int .i64 10, .int .i64 1, .int .i64 64, .int .i64 20, .int .i64 1, .int .i64 4, .int .i64 10, .int .i64 5, .int .i64 1, .int .i64 3, .int .i64 2, Value.slice none 0 0]), (11, .map (some b199)), (12, .pointer (some ⟨g198, 0, none⟩))] [Value.pointer none, .int .i64 2, .int .i64 4, .int .i64 1000, .int .u64 1, V167, .int .i64 0, .int .i64 1, .int .i64 1, .int .i64 10, .int .i64 1, .int .i64 64, .int .i64 20, .int .i64 1, .int .i64 4, .int .i64 10, .int .i64 5, .int .i64 1, .int .i64 3, .int .i64 2, Value.slice none 0 0, .int .i64 0, .int .i64 0, .int .i64 0, .int .i64 0, Value.pointer none, Value.pointer none, Value.pointer none, .map (some b199), .pointer (some ⟨g198, 0, none⟩), Value.pointer none] #[(0, 1), (1, 5), (6, 1), (7, 14), (21, 1), (22, 1), (23, 1), (24, 1), (25, 1), (26, 1), (27, 1), (28, 1), (29, 1), (30, 1)] U90 Y90 (places90 N90) rfl (by cases V167 <;> first | (simp [Value.oneCell'] at hV172; done) | (kernel_rfl; done))) rfl ?_
  refine Mx.l rfl (Lo.bx rfl rfl) rfl ?_
  rintro _ _ ⟨g200, rfl, rfl⟩
  refine MxK.gp [5, 6] [0, 1] rfl rfl ?_
  refine Mx.r 1 rfl ?_
  refine Mx.nil ?_
  refine J.co 3 rfl ?_
  refine O.l (Lo.buildE id U23 Z56) rfl ?_
  rintro V201 _ rfl
  refine O.oo 1 rfl ?_
  refine O.q (Qt.lv 7 A23 rfl rfl rfl) rfl ?_
  refine O.l (Lo.am 0 N23 info56 rfl rfl rfl rfl rfl (Src.row 6 rfl) (id_one rfl) (Nat.le_of_ble_eq_true rfl) (Nat.le_of_ble_eq_true rfl)) rfl ?_
  rintro V202 _ rfl
  refine O.oo 3 rfl ?_
  refine O.one (Src.row 0 rfl) (fun hV203 => ?_)
  refine O.l0 (Lo.so 1 Z23 hV203 rfl rfl rfl rfl) ?_
  rintro _ _ rfl
  refine O.oo 4 rfl ?_
  refine O.l (Lo.buildE id U54 Z136) rfl ?_
  rintro V204 _ rfl
  refine O.oo 4 rfl ?_
  refine O.q (Qt.lv 2 A54 rfl rfl rfl) rfl ?_
  refine O.nr 136 4 (([] : List (List Value)).map id) rfl ?_
  refine O.l (Lo.am 1 N54 info136 rfl rfl rfl rfl rfl (Src.row 0 rfl) (id_one rfl) (Nat.le_of_ble_eq_true rfl) (Nat.le_of_ble_eq_true rfl)) rfl ?_
  rintro V205 _ rfl
  refine O.oo 3 rfl ?_
  refine O.one (Src.row 1 rfl) (fun hV206 => ?_)
  refine O.l0 (Lo.so 3 Z54 hV206 rfl rfl rfl rfl) ?_
  rintro _ _ rfl
  refine O.oc 2 rfl ?_
  refine J.dm [(0, false), (1, false), (3, false), (4, false), (5, false), (6, false), (7, false), (8, false), (9, false), (10, false), (11, false), (12, false), (2, true), (13, true), (14, false), (15, false), (16, false), (17, false), (18, false), (19, true)] [3, 9] Tryz.mixed (by kernel_rfl) rfl ?_
  refine Mx.r 1 rfl ?_
  refine Mx.q rfl (Qt.lva 1 A25 Z25 rfl rfl rfl) rfl ?_
  refine Mx.r 4 rfl ?_
  refine Mx.q rfl (Qt.lv 0 A3 rfl rfl rfl) rfl ?_
  refine Mx.r 4 rfl ?_
  refine Mx.q rfl (Qt.lva 0 A45 Z45 rfl rfl rfl) rfl ?_
  refine Mx.l rfl (Lo.ca C52 (nb98 V167) [8] rfl rfl .nil) rfl ?_
  rintro _ _ ⟨_, ⟨rfl, rfl⟩, rfl⟩
  refine MxK.gp [4, 9] [0, 1] rfl rfl ?_
  refine Mx.l rfl (Lo.ca C51 nb104 [] rfl rfl .nil) rfl ?_
  rintro _ _ ⟨_, ⟨g214, g212, g211, g210, g213, rfl, rfl⟩, rfl⟩
  refine MxK.gp [9, 14] [0, 1] rfl rfl ?_
  refine Mx.r 5 rfl ?_
  refine Mx.l0 rfl (Lo.st 9 Z82 rfl rfl rfl rfl rfl rfl rfl) ?_
  rintro _ _ rfl
  refine MxK.al [9, 14] rfl (by kernel_rfl) ?_
  refine Mx.nil ?_
  refine J.co 7 rfl ?_
  refine O.q (Qt.lv 9 A3 rfl rfl rfl) rfl ?_
  refine O.l (Lo.ca C53 nb105 [] rfl rfl .nil) rfl ?_
  rintro _ _ ⟨_, ⟨g218, V215, b216, rfl, rfl⟩, rfl⟩
  refine O.oo 5 rfl ?_
  refine O.l0 (Lo.st 12 Z83 rfl rfl rfl rfl rfl rfl rfl) ?_
  rintro _ _ rfl
  refine O.oo 8 rfl ?_
  refine O.q (Qt.lv 12 A3 rfl rfl rfl) rfl ?_
  refine O.l (Lo.ca C54 nb107 [] rfl rfl .nil) rfl ?_
  rintro _ _ ⟨_, ⟨g221, g220, b219, rfl, rfl⟩, rfl⟩
  refine O.oo 5 rfl ?_
  refine O.l0 (Lo.st 15 Z84 rfl rfl rfl rfl rfl rfl rfl) ?_
  rintro _ _ rfl
  refine O.oo 8 rfl ?_
  refine O.q (Qt.lv 15 A3 rfl rfl rfl) rfl ?_
  refine O.l (Lo.ca C55 nb108 [] rfl rfl .nil) rfl ?_
  rintro _ _ ⟨_, ⟨g222, rfl, rfl⟩, rfl⟩
  refine O.oo 5 rfl ?_
  refine O.l0 (Lo.st 16 Z85 rfl rfl rfl rfl rfl rfl rfl) ?_
  rintro _ _ rfl
  refine O.oo 8 rfl ?_
  refine O.q (Qt.lv 16 A3 rfl rfl rfl) rfl ?_
  refine O.l (Lo.ca C56 nb109 [] rfl rfl .nil) rfl ?_
  rintro _ _ ⟨_, ⟨g223, rfl, rfl⟩, rfl⟩
  refine O.oo 5 rfl ?_
  refine O.l0 (Lo.st 17 Z88 rfl rfl rfl rfl rfl rfl rfl) ?_
  rintro _ _ rfl
  refine O.oc 7 rfl ?_
  exact J.rn [_, _] [13, 17, 8, 16, 15, 5, 2, 1, 18, 19, 0, 9, 10, 11, 12, 6, 7, 3, 20, 21, 4] rfl ⟨rfl, rfl, trivial⟩ rfl ⟨g200, g214, V202, V205, g218, g221, g222, b199, g198, g223, g212, g211, g210, g213, V215, b216, g220, b196, b197, b219, rfl, rfl⟩
 ·
  refine A.mx [(0, false), (1, false), (2, false), (3, false), (4, false), (5, false), (6, false), (7, true), (8, true), (9, false), (10, true), (11, false)] [0, 1] (by kernel_rfl) rfl ?_
  refine Mx.q rfl (Qt.lva 1 A25 Z25 rfl rfl rfl) rfl ?_
  refine Mx.r 2 rfl ?_
  refine Mx.q rfl (Qt.lv 1 A23 rfl rfl rfl) rfl ?_
  refine Mx.r 1 rfl ?_
  refine Mx.q rfl (Qt.ix U23 Z56 rfl (Src.row 0 rfl) (j := 0) (a := [.int .i64 1, .int .i64 1, .int .i64 10, .int .i64 1, .int .i64 64, .int .i64 20, .int .i64 1, .int .i64 4, .int .i64 10, .int .i64 5, .int .i64 1, .int .i64 3, .int .i64 2, Value.slice none 0 0]) rfl rfl rfl) rfl ?_
  refine Mx.q rfl (Qt.lea A56 Z56 (Src.row 0 rfl) (j := 0) (a := [.int .i64 1, .int .i64 1, .int .i64 10, .int .i64 1, .int .i64 64, .int .i64 20, .int .i64 1, .int .i64 4, .int .i64 10, .int .i64 5, .int .i64 1, .int .i64 3, .int .i64 2, Value.slice none 0 0]) rfl 0 rfl (by omega) rfl) rfl ?_
  refine Mx.l rfl (Lo.makeMapI (id : Value → Value)) rfl ?_
  rintro _ _ ⟨b224, rfl, rfl⟩
  refine MxK.gp [1, 2] [0, 1] rfl rfl ?_
  refine Mx.l rfl (Lo.ca C50 nb91 [] rfl rfl .nil) rfl ?_
  rintro _ _ ⟨_, ⟨g225, b226, b227, rfl, rfl⟩, rfl⟩
  refine MxK.gp [4, 5] [0, 1] rfl rfl ?_
  refine Mx.p rfl (Pu.build [(1, .agg #[.int .i64 2, .int .i64 4, .int .i64 1000, .int .u64 1, V167]), (2, .int .i64 0), (3, .agg #[.int .i64 1, .int .i64 1, .int .i64 10, .int .i64 1, .int .i64 64, .int .i64 20, .int .i64 1, .int .i64 4, .int .i64 10, .int .i64 5, .int .i64 1, .int .i64 3, .int .i64 2, Value.slice none 0 0]), (11, .map (some b224)), (12, .pointer (some ⟨g225, 0, none⟩))] [Value.pointer none, .int .i64 2, .int .i64 4, .int .i64 1000, .int .u64 1, V167, .int .i64 0, .int .i64 1, .int .i64 1, .int .i64 10, .int .i64 1, .int .i64 64, .int .i64 20, .int .i64 1, .int .i64 4, .int .i64 10, .int .i64 5, .int .i64 1, .int .i64 3, .int .i64 2, Value.slice none 0 0, .int .i64 0, .int .i64 0, .int .i64 0, .int .i64 0, Value.pointer none, Value.pointer none, Value.pointer none, .map (some b224), .pointer (some ⟨g225, 0, none⟩), Value.pointer none] #[(0, 1), (1, 5), (6, 1), (7, 14), (21, 1), (22, 1), (23, 1), (24, 1), (25, 1), (26, 1), (27, 1), (28, 1), (29, 1), (30, 1)] U90 Y90 (places90 N90) rfl (by cases V167 <;> first | (simp [Value.oneCell'] at hV172; done) | (kernel_rfl; done))) rfl ?_
  refine Mx.l rfl (Lo.bx rfl rfl) rfl ?_
  rintro _ _ ⟨g228, rfl, rfl⟩
  refine MxK.gp [5, 6] [0, 1] rfl rfl ?_
  refine Mx.r 1 rfl ?_
  refine Mx.nil ?_
  refine J.co 3 rfl ?_
  refine O.l (Lo.buildE id U23 Z56) rfl ?_
  rintro V229 _ rfl
  refine O.oo 1 rfl ?_
  refine O.q (Qt.lv 7 A23 rfl rfl rfl) rfl ?_
  refine O.l (Lo.am 0 N23 info56 rfl rfl rfl rfl rfl (Src.row 6 rfl) (id_one rfl) (Nat.le_of_ble_eq_true rfl) (Nat.le_of_ble_eq_true rfl)) rfl ?_
  rintro V230 _ rfl
  refine O.oo 3 rfl ?_
  refine O.one (Src.row 0 rfl) (fun hV231 => ?_)
  refine O.l0 (Lo.so 1 Z23 hV231 rfl rfl rfl rfl) ?_
  rintro _ _ rfl
  refine O.oo 4 rfl ?_
  refine O.l (Lo.buildE id U54 Z136) rfl ?_
  rintro V232 _ rfl
  refine O.oo 4 rfl ?_
  refine O.q (Qt.lv 2 A54 rfl rfl rfl) rfl ?_
  refine O.nr 136 4 (([] : List (List Value)).map id) rfl ?_
  refine O.l (Lo.am 1 N54 info136 rfl rfl rfl rfl rfl (Src.row 0 rfl) (id_one rfl) (Nat.le_of_ble_eq_true rfl) (Nat.le_of_ble_eq_true rfl)) rfl ?_
  rintro V233 _ rfl
  refine O.oo 3 rfl ?_
  refine O.one (Src.row 1 rfl) (fun hV234 => ?_)
  refine O.l0 (Lo.so 3 Z54 hV234 rfl rfl rfl rfl) ?_
  rintro _ _ rfl
  refine O.oc 2 rfl ?_
  refine J.dm [(0, false), (1, false), (3, false), (4, false), (5, false), (6, false), (7, false), (8, false), (9, false), (10, false), (11, false), (12, false), (2, true), (13, true), (14, false), (15, false), (16, false), (17, false), (18, false), (19, true)] [3, 9] Tryz.mixed (by kernel_rfl) rfl ?_
  refine Mx.r 1 rfl ?_
  refine Mx.q rfl (Qt.lva 1 A25 Z25 rfl rfl rfl) rfl ?_
  refine Mx.r 4 rfl ?_
  refine Mx.q rfl (Qt.lv 0 A3 rfl rfl rfl) rfl ?_
  refine Mx.r 4 rfl ?_
  refine Mx.q rfl (Qt.lva 0 A45 Z45 rfl rfl rfl) rfl ?_
  refine Mx.l rfl (Lo.ca C52 (nb98 V167) [8] rfl rfl .nil) rfl ?_
  rintro _ _ ⟨_, ⟨rfl, rfl⟩, rfl⟩
  refine MxK.gp [4, 9] [0, 1] rfl rfl ?_
  refine Mx.l rfl (Lo.ca C51 nb104 [] rfl rfl .nil) rfl ?_
  rintro _ _ ⟨_, ⟨g235, g236, g237, g238, g239, rfl, rfl⟩, rfl⟩
  refine MxK.gp [9, 14] [0, 1] rfl rfl ?_
  refine Mx.r 5 rfl ?_
  refine Mx.l0 rfl (Lo.st 9 Z82 rfl rfl rfl rfl rfl rfl rfl) ?_
  rintro _ _ rfl
  refine MxK.al [9, 14] rfl (by kernel_rfl) ?_
  refine Mx.nil ?_
  refine J.co 7 rfl ?_
  refine O.q (Qt.lv 9 A3 rfl rfl rfl) rfl ?_
  refine O.l (Lo.ca C53 nb105 [] rfl rfl .nil) rfl ?_
  rintro _ _ ⟨_, ⟨g240, V241, b242, rfl, rfl⟩, rfl⟩
  refine O.oo 5 rfl ?_
  refine O.l0 (Lo.st 12 Z83 rfl rfl rfl rfl rfl rfl rfl) ?_
  rintro _ _ rfl
  refine O.oo 8 rfl ?_
  refine O.q (Qt.lv 12 A3 rfl rfl rfl) rfl ?_
  refine O.l (Lo.ca C54 nb107 [] rfl rfl .nil) rfl ?_
  rintro _ _ ⟨_, ⟨g243, g244, b245, rfl, rfl⟩, rfl⟩
  refine O.oo 5 rfl ?_
  refine O.l0 (Lo.st 15 Z84 rfl rfl rfl rfl rfl rfl rfl) ?_
  rintro _ _ rfl
  refine O.oo 8 rfl ?_
  refine O.q (Qt.lv 15 A3 rfl rfl rfl) rfl ?_
  refine O.l (Lo.ca C55 nb108 [] rfl rfl .nil) rfl ?_
  rintro _ _ ⟨_, ⟨g246, rfl, rfl⟩, rfl⟩
  refine O.oo 5 rfl ?_
  refine O.l0 (Lo.st 16 Z85 rfl rfl rfl rfl rfl rfl rfl) ?_
  rintro _ _ rfl
  refine O.oo 8 rfl ?_
  refine O.q (Qt.lv 16 A3 rfl rfl rfl) rfl ?_
  refine O.l (Lo.ca C56 nb109 [] rfl rfl .nil) rfl ?_
  rintro _ _ ⟨_, ⟨g247, rfl, rfl⟩, rfl⟩
  refine O.oo 5 rfl ?_
  refine O.l0 (Lo.st 17 Z88 rfl rfl rfl rfl rfl rfl rfl) ?_
  rintro _ _ rfl
  refine O.oc 7 rfl ?_
  exact J.rn [_, _] [13, 17, 8, 16, 15, 5, 2, 1, 21, 18, 0, 9, 10, 11, 12, 6, 7, 3, 19, 20, 4] rfl ⟨rfl, rfl, trivial⟩ rfl ⟨g228, g235, V230, V233, g240, g243, g246, b224, g225, g247, g236, g237, g238, g239, V241, b242, g244, b226, b227, b245, rfl, rfl⟩

set_option maxRecDepth 100000 in
theorem nb111 (g228 : Nat) (g235 : Nat) (V230 : Value) (V233 : Value) (g240 : Nat) (g243 : Nat) (g246 : Nat) (b224 : Nat) (g225 : Nat) (g247 : Nat) : Tri Tryz.prog 39 #[.pointer (some ⟨g228, 0, none⟩)] [] [var g228 [.pointer (some ⟨g235, 0, none⟩), .int .i64 2, .int .i64 4, .int .i64 1000, .int .u64 1, V230, .int .i64 0, .int .i64 1, .int .i64 1, .int .i64 10, .int .i64 1, .int .i64 64, .int .i64 20, .int .i64 1, .int .i64 4, .int .i64 10, .int .i64 5, .int .i64 1, .int .i64 3, .int .i64 2, V233, .int .i64 0, .int .i64 0, .int .i64 0, .int .i64 0, .pointer (some ⟨g240, 0, none⟩), .pointer (some ⟨g243, 0, none⟩), .pointer (some ⟨g246, 0, none⟩), .map (some b224), .pointer (some ⟨g225, 0, none⟩), .pointer (some ⟨g247, 0, none⟩)] 90] (fun v L' => v = .bool true ∧ L' = [var g228 [.pointer (some ⟨g235, 0, none⟩), .int .i64 2, .int .i64 4, .int .i64 1000, .int .u64 1, V230, .int .i64 0, .int .i64 1, .int .i64 1, .int .i64 10, .int .i64 1, .int .i64 64, .int .i64 20, .int .i64 1, .int .i64 4, .int .i64 10, .int .i64 5, .int .i64 1, .int .i64 3, .int .i64 2, V233, .int .i64 0, .int .i64 0, .int .i64 0, .int .i64 0, .pointer (some ⟨g240, 0, none⟩), .pointer (some ⟨g243, 0, none⟩), .pointer (some ⟨g246, 0, none⟩), .map (some b224), .pointer (some ⟨g225, 0, none⟩), .pointer (some ⟨g247, 0, none⟩)] 90]) := by
 refine Tri.en F39 rfl K39 rfl fun w0 => ?_
 refine J.co 7 rfl ?_
 refine O.p (Pu.ptrNe N29 rfl) rfl ?_
 refine O.oo 4 rfl ?_
 refine O.gz (Qt.lv 0 A82 rfl rfl rfl) rfl rfl ?_
 refine O.gz (Pu.qt (Pu.ptrNe N82 rfl)) rfl rfl ?_
 refine O.oc 3 rfl ?_
 exact J.r1 [0] rfl rfl rfl ⟨rfl, rfl⟩

set_option maxRecDepth 100000 in
theorem nb112 (g255 : Nat) : Tri Tryz.prog 258 #[.pointer (some ⟨g255, 0, none⟩)] [] [] (fun v L' => ∃ (V256 : Value), v = V256 ∧ L' = [row V256 336 5 ([[.pointer (some ⟨g255, 0, none⟩), .int .i64 6, .int .i64 0, .int .i64 0, .int .i64 281474976710655], [.pointer (some ⟨g255, 1, none⟩), .int .i64 1, .int .i64 1, .int .i64 (-1), .int .i64 7], [.pointer (some ⟨g255, 2, none⟩), .int .i64 1, .int .i64 0, .int .i64 0, .int .i64 7], [.pointer (some ⟨g255, 3, none⟩), .int .i64 1, .int .i64 0, .int .i64 0, .int .i64 127], [.pointer (some ⟨g255, 4, none⟩), .int .i64 6, .int .i64 0, .int .i64 0, .int .i64 1099511627776], [.pointer (some ⟨g255, 5, none⟩), .int .i64 2, .int .i64 0, .int .i64 0, .int .i64 65535]].map id)]) := by
 refine Tri.en F258 rfl K258 rfl fun w0 => ?_
 refine J.cc 5 rfl ?_
 refine J.drawTail 24 Tryz.mixed (by kernel_rfl) ?_
 refine S.r 3 rfl ?_
 refine S.p (Pu.build [(0, .pointer (some ⟨g255, 0, none⟩)), (1, .int .i64 6), (2, .int .i64 0), (3, .int .i64 0), (4, .int .i64 281474976710655)] [.pointer (some ⟨g255, 0, none⟩), .int .i64 6, .int .i64 0, .int .i64 0, .int .i64 281474976710655] #[(0, 1), (1, 1), (2, 1), (3, 1), (4, 1)] U336 Y336 (places336 N336) rfl (by kernel_rfl)) rfl ?_
 refine S.r 3 rfl ?_
 refine S.p (Pu.build [(0, .pointer (some ⟨g255, 1, none⟩)), (1, .int .i64 1), (2, .int .i64 1), (3, .int .i64 (-1)), (4, .int .i64 7)] [.pointer (some ⟨g255, 1, none⟩), .int .i64 1, .int .i64 1, .int .i64 (-1), .int .i64 7] #[(0, 1), (1, 1), (2, 1), (3, 1), (4, 1)] U336 Y336 (places336 N336) rfl (by kernel_rfl)) rfl ?_
 refine S.r 3 rfl ?_
 refine S.p (Pu.build [(0, .pointer (some ⟨g255, 2, none⟩)), (1, .int .i64 1), (2, .int .i64 0), (3, .int .i64 0), (4, .int .i64 7)] [.pointer (some ⟨g255, 2, none⟩), .int .i64 1, .int .i64 0, .int .i64 0, .int .i64 7] #[(0, 1), (1, 1), (2, 1), (3, 1), (4, 1)] U336 Y336 (places336 N336) rfl (by kernel_rfl)) rfl ?_
 refine S.r 3 rfl ?_
 refine S.p (Pu.build [(0, .pointer (some ⟨g255, 3, none⟩)), (1, .int .i64 1), (2, .int .i64 0), (3, .int .i64 0), (4, .int .i64 127)] [.pointer (some ⟨g255, 3, none⟩), .int .i64 1, .int .i64 0, .int .i64 0, .int .i64 127] #[(0, 1), (1, 1), (2, 1), (3, 1), (4, 1)] U336 Y336 (places336 N336) rfl (by kernel_rfl)) rfl ?_
 refine S.r 3 rfl ?_
 refine S.p (Pu.build [(0, .pointer (some ⟨g255, 4, none⟩)), (1, .int .i64 6), (2, .int .i64 0), (3, .int .i64 0), (4, .int .i64 1099511627776)] [.pointer (some ⟨g255, 4, none⟩), .int .i64 6, .int .i64 0, .int .i64 0, .int .i64 1099511627776] #[(0, 1), (1, 1), (2, 1), (3, 1), (4, 1)] U336 Y336 (places336 N336) rfl (by kernel_rfl)) rfl ?_
 refine S.r 3 rfl ?_
 refine S.p (Pu.build [(0, .pointer (some ⟨g255, 5, none⟩)), (1, .int .i64 2), (2, .int .i64 0), (3, .int .i64 0), (4, .int .i64 65535)] [.pointer (some ⟨g255, 5, none⟩), .int .i64 2, .int .i64 0, .int .i64 0, .int .i64 65535] #[(0, 1), (1, 1), (2, 1), (3, 1), (4, 1)] U336 Y336 (places336 N336) rfl (by kernel_rfl)) rfl ?_
 refine S.endO ?_
 refine O.l (Lo.bm id [[.pointer (some ⟨g255, 0, none⟩), .int .i64 6, .int .i64 0, .int .i64 0, .int .i64 281474976710655], [.pointer (some ⟨g255, 1, none⟩), .int .i64 1, .int .i64 1, .int .i64 (-1), .int .i64 7], [.pointer (some ⟨g255, 2, none⟩), .int .i64 1, .int .i64 0, .int .i64 0, .int .i64 7], [.pointer (some ⟨g255, 3, none⟩), .int .i64 1, .int .i64 0, .int .i64 0, .int .i64 127], [.pointer (some ⟨g255, 4, none⟩), .int .i64 6, .int .i64 0, .int .i64 0, .int .i64 1099511627776], [.pointer (some ⟨g255, 5, none⟩), .int .i64 2, .int .i64 0, .int .i64 0, .int .i64 65535]] U332 Z336 Y336 rfl rfl rfl (by kernel_rfl) rfl rfl) rfl ?_
 rintro V256 _ rfl
 refine O.oc 2 rfl ?_
 exact J.r1 [0] rfl rfl rfl ⟨V256, rfl, rfl⟩

set_option maxRecDepth 100000 in
theorem nb113 : Tri Tryz.prog 175 #[.agg #[.int .i64 1, .int .i64 (-1), .int .i64 0, .int .i64 2, .int .i64 50, .int .i64 9]] [] [] (fun v L' => v = .int .i64 0 ∧ L' = []) := by
 refine Tri.en F175 rfl K175 rfl fun w0 => ?_
 refine J.co 2 rfl ?_
 refine O.l (Lo.bx rfl rfl) rfl ?_
 rintro _ _ ⟨g255, rfl, rfl⟩
 refine O.oo 5 rfl ?_
 refine O.l (Lo.ca C258 (nb112 g255) [] rfl rfl .nil) rfl ?_
 rintro V256 _ ⟨_, ⟨_, rfl, rfl⟩, rfl⟩
 refine O.q (Qt.lenM U332 rfl (Src.row 0 rfl)) rfl ?_
 refine O.oc 3 rfl ?_
 refine J.un ?_
 refine J.co 11 rfl ?_
 refine O.q (Qt.ix U332 Z336 rfl (Src.row 0 rfl) (j := 0) (a := [.pointer (some ⟨g255, 0, none⟩), .int .i64 6, .int .i64 0, .int .i64 0, .int .i64 281474976710655]) rfl rfl rfl) rfl ?_
 refine O.q (Qt.lea A336 Z336 (Src.row 0 rfl) (j := 0) (a := [.pointer (some ⟨g255, 0, none⟩), .int .i64 6, .int .i64 0, .int .i64 0, .int .i64 281474976710655]) rfl 0 rfl (by omega) rfl) rfl ?_
 refine O.l (Lo.al Y336 rfl) rfl ?_
 rintro _ _ ⟨g257, rfl, rfl⟩
 refine O.l0 (Lo.st 0 Z336 rfl rfl rfl rfl rfl rfl rfl) ?_
 rintro _ _ rfl
 refine O.oc 2 rfl ?_
 refine J.drawStill Tryz.mixed (by kernel_rfl) ?_
 refine S.r 1 rfl ?_
 refine S.q (Qt.lv 0 A305 rfl rfl rfl) rfl ?_
 refine S.r 1 rfl ?_
 refine S.q (Qt.lv 2 A3 rfl rfl rfl) rfl ?_
 refine S.r 1 rfl ?_
 refine S.q (Qt.lv 0 A3 rfl rfl rfl) rfl ?_
 refine S.r 3 rfl ?_
 refine S.gz (Qt.lv 0 A305 rfl rfl rfl) rfl rfl ?_
 refine S.r 1 rfl ?_
 refine S.gz (Qt.lv 2 A3 rfl rfl rfl) rfl rfl ?_
 refine S.r 1 rfl ?_
 refine S.gz (Qt.lv 0 A3 rfl rfl rfl) rfl rfl ?_
 refine S.r 2 rfl ?_
 refine S.endJ ?_
 refine J.co 4 rfl ?_
 refine O.p (Pu.add' rfl rfl (by decide)) rfl ?_
 refine O.oc 2 rfl ?_
 refine J.again ?_
 refine J.co 11 rfl ?_
 refine O.q (Qt.ix U332 Z336 rfl (Src.row 1 rfl) (j := 1) (a := [.pointer (some ⟨g255, 1, none⟩), .int .i64 1, .int .i64 1, .int .i64 (-1), .int .i64 7]) rfl rfl rfl) rfl ?_
 refine O.q (Qt.lea A336 Z336 (Src.row 1 rfl) (j := 1) (a := [.pointer (some ⟨g255, 1, none⟩), .int .i64 1, .int .i64 1, .int .i64 (-1), .int .i64 7]) rfl 0 rfl (by omega) rfl) rfl ?_
 refine O.l (Lo.al Y336 rfl) rfl ?_
 rintro _ _ ⟨g258, rfl, rfl⟩
 refine O.l0 (Lo.st 0 Z336 rfl rfl rfl rfl rfl rfl rfl) ?_
 rintro _ _ rfl
 refine O.oc 2 rfl ?_
 refine J.drawStill Tryz.mixed (by kernel_rfl) ?_
 refine S.r 1 rfl ?_
 refine S.q (Qt.lv 0 A305 rfl rfl rfl) rfl ?_
 refine S.r 1 rfl ?_
 refine S.q (Qt.lv 3 A3 rfl rfl rfl) rfl ?_
 refine S.r 1 rfl ?_
 refine S.q (Qt.lv 0 A3 rfl rfl rfl) rfl ?_
 refine S.r 3 rfl ?_
 refine S.gz (Qt.lv 0 A305 rfl rfl rfl) rfl rfl ?_
 refine S.r 1 rfl ?_
 refine S.gz (Qt.lv 3 A3 rfl rfl rfl) rfl rfl ?_
 refine S.r 1 rfl ?_
 refine S.gz (Qt.lv 0 A3 rfl rfl rfl) rfl rfl ?_
 refine S.r 2 rfl ?_
 refine S.endJ ?_
 refine J.co 4 rfl ?_
 refine O.p (Pu.add' rfl rfl (by decide)) rfl ?_
 refine O.oc 2 rfl ?_
 refine J.again ?_
 refine J.co 11 rfl ?_
 refine O.q (Qt.ix U332 Z336 rfl (Src.row 2 rfl) (j := 2) (a := [.pointer (some ⟨g255, 2, none⟩), .int .i64 1, .int .i64 0, .int .i64 0, .int .i64 7]) rfl rfl rfl) rfl ?_
 refine O.q (Qt.lea A336 Z336 (Src.row 2 rfl) (j := 2) (a := [.pointer (some ⟨g255, 2, none⟩), .int .i64 1, .int .i64 0, .int .i64 0, .int .i64 7]) rfl 0 rfl (by omega) rfl) rfl ?_
 refine O.l (Lo.al Y336 rfl) rfl ?_
 rintro _ _ ⟨g259, rfl, rfl⟩
 refine O.l0 (Lo.st 0 Z336 rfl rfl rfl rfl rfl rfl rfl) ?_
 rintro _ _ rfl
 refine O.oc 2 rfl ?_
 refine J.drawStill Tryz.mixed (by kernel_rfl) ?_
 refine S.r 1 rfl ?_
 refine S.q (Qt.lv 0 A305 rfl rfl rfl) rfl ?_
 refine S.r 1 rfl ?_
 refine S.q (Qt.lv 4 A3 rfl rfl rfl) rfl ?_
 refine S.r 1 rfl ?_
 refine S.q (Qt.lv 0 A3 rfl rfl rfl) rfl ?_
 refine S.r 3 rfl ?_
 refine S.gz (Qt.lv 0 A305 rfl rfl rfl) rfl rfl ?_
 refine S.r 1 rfl ?_
 refine S.gz (Qt.lv 4 A3 rfl rfl rfl) rfl rfl ?_
 refine S.r 1 rfl ?_
 refine S.gz (Qt.lv 0 A3 rfl rfl rfl) rfl rfl ?_
 refine S.r 2 rfl ?_
 refine S.endJ ?_
 refine J.co 4 rfl ?_
 refine O.p (Pu.add' rfl rfl (by decide)) rfl ?_
 refine O.oc 2 rfl ?_
 refine J.again ?_
 refine J.co 11 rfl ?_
 refine O.q (Qt.ix U332 Z336 rfl (Src.row 3 rfl) (j := 3) (a := [.pointer (some ⟨g255, 3, none⟩), .int .i64 1, .int .i64 0, .int .i64 0, .int .i64 127]) rfl rfl rfl) rfl ?_
 refine O.q (Qt.lea A336 Z336 (Src.row 3 rfl) (j := 3) (a := [.pointer (some ⟨g255, 3, none⟩), .int .i64 1, .int .i64 0, .int .i64 0, .int .i64 127]) rfl 0 rfl (by omega) rfl) rfl ?_
 refine O.l (Lo.al Y336 rfl) rfl ?_
 rintro _ _ ⟨g260, rfl, rfl⟩
 refine O.l0 (Lo.st 0 Z336 rfl rfl rfl rfl rfl rfl rfl) ?_
 rintro _ _ rfl
 refine O.oc 2 rfl ?_
 refine J.drawStill Tryz.mixed (by kernel_rfl) ?_
 refine S.r 1 rfl ?_
 refine S.q (Qt.lv 0 A305 rfl rfl rfl) rfl ?_
 refine S.r 1 rfl ?_
 refine S.q (Qt.lv 5 A3 rfl rfl rfl) rfl ?_
 refine S.r 1 rfl ?_
 refine S.q (Qt.lv 0 A3 rfl rfl rfl) rfl ?_
 refine S.r 3 rfl ?_
 refine S.gz (Qt.lv 0 A305 rfl rfl rfl) rfl rfl ?_
 refine S.r 1 rfl ?_
 refine S.gz (Qt.lv 5 A3 rfl rfl rfl) rfl rfl ?_
 refine S.r 1 rfl ?_
 refine S.gz (Qt.lv 0 A3 rfl rfl rfl) rfl rfl ?_
 refine S.r 2 rfl ?_
 refine S.endJ ?_
 refine J.co 4 rfl ?_
 refine O.p (Pu.add' rfl rfl (by decide)) rfl ?_
 refine O.oc 2 rfl ?_
 refine J.again ?_
 refine J.co 11 rfl ?_
 refine O.q (Qt.ix U332 Z336 rfl (Src.row 4 rfl) (j := 4) (a := [.pointer (some ⟨g255, 4, none⟩), .int .i64 6, .int .i64 0, .int .i64 0, .int .i64 1099511627776]) rfl rfl rfl) rfl ?_
 refine O.q (Qt.lea A336 Z336 (Src.row 4 rfl) (j := 4) (a := [.pointer (some ⟨g255, 4, none⟩), .int .i64 6, .int .i64 0, .int .i64 0, .int .i64 1099511627776]) rfl 0 rfl (by omega) rfl) rfl ?_
 refine O.l (Lo.al Y336 rfl) rfl ?_
 rintro _ _ ⟨g261, rfl, rfl⟩
 refine O.l0 (Lo.st 0 Z336 rfl rfl rfl rfl rfl rfl rfl) ?_
 rintro _ _ rfl
 refine O.oc 2 rfl ?_
 refine J.drawStill Tryz.mixed (by kernel_rfl) ?_
 refine S.r 1 rfl ?_
 refine S.q (Qt.lv 0 A305 rfl rfl rfl) rfl ?_
 refine S.r 1 rfl ?_
 refine S.q (Qt.lv 6 A3 rfl rfl rfl) rfl ?_
 refine S.r 1 rfl ?_
 refine S.q (Qt.lv 0 A3 rfl rfl rfl) rfl ?_
 refine S.r 3 rfl ?_
 refine S.gz (Qt.lv 0 A305 rfl rfl rfl) rfl rfl ?_
 refine S.r 1 rfl ?_
 refine S.gz (Qt.lv 6 A3 rfl rfl rfl) rfl rfl ?_
 refine S.r 1 rfl ?_
 refine S.gz (Qt.lv 0 A3 rfl rfl rfl) rfl rfl ?_
 refine S.r 2 rfl ?_
 refine S.endJ ?_
 refine J.co 4 rfl ?_
 refine O.p (Pu.add' rfl rfl (by decide)) rfl ?_
 refine O.oc 2 rfl ?_
 refine J.again ?_
 refine J.co 11 rfl ?_
 refine O.q (Qt.ix U332 Z336 rfl (Src.row 5 rfl) (j := 5) (a := [.pointer (some ⟨g255, 5, none⟩), .int .i64 2, .int .i64 0, .int .i64 0, .int .i64 65535]) rfl rfl rfl) rfl ?_
 refine O.q (Qt.lea A336 Z336 (Src.row 5 rfl) (j := 5) (a := [.pointer (some ⟨g255, 5, none⟩), .int .i64 2, .int .i64 0, .int .i64 0, .int .i64 65535]) rfl 0 rfl (by omega) rfl) rfl ?_
 refine O.l (Lo.al Y336 rfl) rfl ?_
 rintro _ _ ⟨g262, rfl, rfl⟩
 refine O.l0 (Lo.st 0 Z336 rfl rfl rfl rfl rfl rfl rfl) ?_
 rintro _ _ rfl
 refine O.oc 2 rfl ?_
 refine J.drawStill Tryz.mixed (by kernel_rfl) ?_
 refine S.r 1 rfl ?_
 refine S.q (Qt.lv 0 A305 rfl rfl rfl) rfl ?_
 refine S.r 1 rfl ?_
 refine S.q (Qt.lv 7 A3 rfl rfl rfl) rfl ?_
 refine S.r 1 rfl ?_
 refine S.q (Qt.lv 0 A3 rfl rfl rfl) rfl ?_
 refine S.r 3 rfl ?_
 refine S.gz (Qt.lv 0 A305 rfl rfl rfl) rfl rfl ?_
 refine S.r 1 rfl ?_
 refine S.gz (Qt.lv 7 A3 rfl rfl rfl) rfl rfl ?_
 refine S.r 1 rfl ?_
 refine S.gz (Qt.lv 0 A3 rfl rfl rfl) rfl rfl ?_
 refine S.r 2 rfl ?_
 refine S.endJ ?_
 refine J.co 4 rfl ?_
 refine O.p (Pu.add' rfl rfl (by decide)) rfl ?_
 refine O.oc 2 rfl ?_
 refine J.again ?_
 refine J.co 11 rfl ?_
 refine O.q (Qt.lv 7 A3 rfl rfl rfl) rfl ?_
 refine O.oo 1 rfl ?_
 refine O.q (Qt.lv 7 A3 rfl rfl rfl) rfl ?_
 refine O.oc 8 rfl ?_
 exact J.r0 rfl rfl ⟨rfl, rfl⟩

set_option maxRecDepth 100000 in
theorem nb114 (g228 : Nat) (g235 : Nat) (V230 : Value) (V233 : Value) (g240 : Nat) (g243 : Nat) (g246 : Nat) (b224 : Nat) (g225 : Nat) (g247 : Nat) : Tri Tryz.prog 78 #[.pointer (some ⟨g228, 0, none⟩), .agg #[.int .i64 1, .int .i64 (-1), .int .i64 0, .int .i64 2, .int .i64 50, .int .i64 9]] [] [var g228 [.pointer (some ⟨g235, 0, none⟩), .int .i64 2, .int .i64 4, .int .i64 1000, .int .u64 1, V230, .int .i64 0, .int .i64 1, .int .i64 1, .int .i64 10, .int .i64 1, .int .i64 64, .int .i64 20, .int .i64 1, .int .i64 4, .int .i64 10, .int .i64 5, .int .i64 1, .int .i64 3, .int .i64 2, V233, .int .i64 0, .int .i64 0, .int .i64 0, .int .i64 0, .pointer (some ⟨g240, 0, none⟩), .pointer (some ⟨g243, 0, none⟩), .pointer (some ⟨g246, 0, none⟩), .map (some b224), .pointer (some ⟨g225, 0, none⟩), .pointer (some ⟨g247, 0, none⟩)] 90, row V230 56 14 ([[.int .i64 1, .int .i64 1, .int .i64 10, .int .i64 1, .int .i64 64, .int .i64 20, .int .i64 1, .int .i64 4, .int .i64 10, .int .i64 5, .int .i64 1, .int .i64 3, .int .i64 2, Value.slice none 0 0]].map id)] (fun v L' => v = .bool true ∧ L' = [var g228 [.pointer (some ⟨g235, 0, none⟩), .int .i64 2, .int .i64 4, .int .i64 1000, .int .u64 1, V230, .int .i64 0, .int .i64 1, .int .i64 1, .int .i64 10, .int .i64 1, .int .i64 64, .int .i64 20, .int .i64 1, .int .i64 4, .int .i64 10, .int .i64 5, .int .i64 1, .int .i64 3, .int .i64 2, V233, .int .i64 0, .int .i64 0, .int .i64 0, .int .i64 0, .pointer (some ⟨g240, 0, none⟩), .pointer (some ⟨g243, 0, none⟩), .pointer (some ⟨g246, 0, none⟩), .map (some b224), .pointer (some ⟨g225, 0, none⟩), .pointer (some ⟨g247, 0, none⟩)] 90, row V230 56 14 ([[.int .i64 1, .int .i64 1, .int .i64 10, .int .i64 1, .int .i64 64, .int .i64 20, .int .i64 1, .int .i64 4, .int .i64 10, .int .i64 5, .int .i64 1, .int .i64 3, .int .i64 2, Value.slice none 0 0]].map id)]) := by
 refine Tri.en F78 rfl K78 rfl fun w0 => ?_
 refine J.co 2 rfl ?_
 refine O.l (Lo.bx rfl rfl) rfl ?_
 rintro _ _ ⟨g254, rfl, rfl⟩
 refine O.oc 3 rfl ?_
 refine J.dm [(0, false), (1, true), (2, false), (3, false), (4, false), (5, false), (6, false), (7, false), (8, false), (9, false), (10, false), (11, false), (12, false), (13, false), (14, false), (15, false), (16, false), (17, false), (18, false), (19, false), (20, true), (21, false), (22, false), (23, false), (24, false), (25, false), (26, false), (27, false), (28, false), (29, false), (30, true), (31, false), (32, false), (33, false)] [0, 1] Tryz.mixed (by kernel_rfl) rfl ?_
 refine Mx.q rfl (Qt.lva 0 A41 Z41 rfl rfl rfl) rfl ?_
 refine Mx.l rfl (Lo.ca C175 nb113 [] rfl rfl .nil) rfl ?_
 rintro _ _ ⟨_, ⟨rfl, rfl⟩, rfl⟩
 refine MxK.al [0, 1] rfl (by kernel_rfl) ?_
 refine Mx.r 3 rfl ?_
 refine Mx.gz (Qt.lv 0 A3 rfl rfl rfl) rfl rfl rfl ?_
 refine Mx.r 3 rfl ?_
 refine Mx.gz (Qt.lv 1 A3 rfl rfl rfl) rfl rfl rfl ?_
 refine Mx.r 4 rfl ?_
 refine Mx.gz (Qt.lv 0 A3 rfl rfl rfl) rfl rfl rfl ?_
 refine Mx.r 5 rfl ?_
 refine Mx.gskipL (t := 21) rfl rfl rfl (no_bool (by decide)) rfl rfl ?_
 refine MxK.gp [0, 1] [0, 1] rfl rfl ?_
 refine Mx.r 4 rfl ?_
 refine Mx.gz (Qt.lv 0 A3 rfl rfl rfl) rfl rfl rfl ?_
 refine Mx.r 3 rfl ?_
 refine Mx.gz (Qt.lva 1 A25 Z25 rfl rfl rfl) rfl rfl rfl ?_
 refine Mx.gy (Lo.ca C52 (nb98 V230) [2] rfl rfl .nil) rfl rfl rfl ?_
 rintro _ _ ⟨_, ⟨rfl, rfl⟩, rfl⟩
 refine MxK.gp [1, 2] [0, 1] rfl rfl ?_
 refine Mx.r 3 rfl ?_
 refine Mx.nil ?_
 exact J.r1 [2, 0] rfl rfl rfl ⟨rfl, rfl⟩

set_option maxRecDepth 100000 in
theorem nb115 (g243 : Nat) (g244 : Nat) : Tri Tryz.prog 114 #[.pointer (some ⟨g243, 0, none⟩)] [] [var g243 [.pointer (some ⟨g244, 0, none⟩), .int .i64 1] 206] (fun v L' => v = .pointer (some ⟨g244, 0, none⟩) ∧ L' = [var g243 [.pointer (some ⟨g244, 0, none⟩), .int .i64 1] 206]) := by
 refine Tri.en F114 rfl K114 rfl fun w0 => ?_
 refine J.co 8 rfl ?_
 refine O.p (Pu.someEq N84 rfl) rfl ?_
 refine O.oo 8 rfl ?_
 refine O.q (Qt.lv 0 A163 rfl rfl rfl) rfl ?_
 refine O.oc 2 rfl ?_
 exact J.r1 [0] rfl rfl rfl ⟨rfl, rfl⟩

set_option maxRecDepth 100000 in
theorem nb116 (g244 : Nat) (b245 : Nat) : Tri Tryz.prog 314 #[.pointer (some ⟨g244, 0, none⟩), .int .i64 1] [] [var g244 [.map (some b245), .int .i64 1, Value.slice none 0 0] 294, mi b245 (Value.int .i64) ([] : List (Int × Int))] (fun v L' => v = .tuple #[.int .i64 0, .bool false] ∧ L' = [var g244 [.map (some b245), .int .i64 1, Value.slice none 0 0] 294, mi b245 (Value.int .i64) ([] : List (Int × Int))]) := by
 refine Tri.en F314 rfl K314 rfl fun w0 => ?_
 refine J.co 10 rfl ?_
 refine O.q (Qt.lv 0 A178 rfl rfl rfl) rfl ?_
 refine O.oo 1 rfl ?_
 refine O.q (Qt.lkOk (V := .int .i64 0) (q := false) N178 N3 Y3 rfl rfl (Mc.own 1 b245 rfl rfl) rfl rfl) rfl ?_
 refine O.oc 13 rfl ?_
 exact J.rn [_, _] [0, 1] rfl ⟨rfl, rfl, trivial⟩ rfl ⟨rfl, rfl⟩

set_option maxRecDepth 100000 in
theorem nb117 (g244 : Nat) (b245 : Nat) : Tri Tryz.prog 259 #[.pointer (some ⟨g244, 0, none⟩), .int .i64 1] [] [var g244 [.map (some b245), .int .i64 1, Value.slice none 0 0] 294, mi b245 (Value.int .i64) ([] : List (Int × Int))] (fun v L' => v = .tuple #[.agg #[.int .i64 0, .int .i64 0, .int .i64 0, .int .i64 0, .int .i64 0, .int .i64 0, .int .i64 0], .bool false] ∧ L' = [var g244 [.map (some b245), .int .i64 1, Value.slice none 0 0] 294, mi b245 (Value.int .i64) ([] : List (Int × Int))]) := by
 refine Tri.en F259 rfl K259 rfl fun w0 => ?_
 refine J.co 2 rfl ?_
 refine O.l (Lo.al Y66 rfl) rfl ?_
 rintro _ _ ⟨g264, rfl, rfl⟩
 refine O.oo 6 rfl ?_
 refine O.p (Pu.someEq N163 rfl) rfl ?_
 refine O.oo 9 rfl ?_
 refine O.l (Lo.ca C314 (nb116 g244 b245) [1, 2] rfl rfl .nil) rfl ?_
 rintro _ _ ⟨_, ⟨rfl, rfl⟩, rfl⟩
 refine O.oo 15 rfl ?_
 refine O.p (Pu.build [] [.int .i64 0, .int .i64 0, .int .i64 0, .int .i64 0, .int .i64 0, .int .i64 0, .int .i64 0] #[(0, 1), (1, 1), (2, 1), (3, 1), (4, 1), (5, 1), (6, 1)] U66 Y66 (places66 N66) rfl (by kernel_rfl)) rfl ?_
 refine O.l0 (Lo.st 2 Z66 rfl rfl rfl rfl rfl rfl rfl) ?_
 rintro _ _ rfl
 refine O.oc 2 rfl ?_
 exact J.rn [_, _] [0, 1] rfl ⟨⟨_, _, 0, 0, _, rfl, Cel.var 2 rfl, rfl, Cut.agg _ A66 Z66 rfl rfl⟩, rfl, trivial⟩ rfl ⟨rfl, rfl⟩

set_option maxRecDepth 100000 in
theorem nb118 (g243 : Nat) (g244 : Nat) (b245 : Nat) : Tri Tryz.prog 176 #[.pointer (some ⟨g243, 0, none⟩), .int .i64 1] [] [var g243 [.pointer (some ⟨g244, 0, none⟩), .int .i64 1] 206, var g244 [.map (some b245), .int .i64 1, Value.slice none 0 0] 294, mi b245 (Value.int .i64) ([] : List (Int × Int))] (fun v L' => v = .bool false ∧ L' = [var g243 [.pointer (some ⟨g244, 0, none⟩), .int .i64 1] 206, var g244 [.map (some b245), .int .i64 1, Value.slice none 0 0] 294, mi b245 (Value.int .i64) ([] : List (Int × Int))]) := by
 refine Tri.en F176 rfl K176 rfl fun w0 => ?_
 refine J.co 7 rfl ?_
 refine O.l (Lo.ca C114 (nb115 g243 g244) [0] rfl rfl .nil) rfl ?_
 rintro _ _ ⟨_, ⟨rfl, rfl⟩, rfl⟩
 refine O.oo 1 rfl ?_
 refine O.l (Lo.ca C259 (nb117 g244 b245) [1, 2] rfl rfl .nil) rfl ?_
 rintro _ _ ⟨_, ⟨rfl, rfl⟩, rfl⟩
 refine O.oo 3 rfl ?_
 refine O.l (Lo.al Y66 rfl) rfl ?_
 rintro _ _ ⟨g265, rfl, rfl⟩
 refine O.l0 (Lo.st 0 Z66 rfl rfl rfl rfl rfl rfl rfl) ?_
 rintro _ _ rfl
 refine O.oc 7 rfl ?_
 exact J.r1 [3, 1, 2] rfl rfl rfl ⟨rfl, rfl⟩

set_option maxRecDepth 100000 in
theorem nb119 (g240 : Nat) (V241 : Value) (b242 : Nat) : Tri Tryz.prog 260 #[.pointer (some ⟨g240, 0, none⟩), .int .i64 1] [] [var g240 [V241, .int .i64 0, .int .i64 0, .map (some b242)] 180, mi b242 (Value.int .i64) ([] : List (Int × Int))] (fun v L' => v = .bool false ∧ L' = [var g240 [V241, .int .i64 0, .int .i64 0, .map (some b242)] 180, mi b242 (Value.int .i64) ([] : List (Int × Int))]) := by
 refine Tri.en F260 rfl K260 rfl fun w0 => ?_
 refine J.co 8 rfl ?_
 refine O.p (Pu.someEq N83 rfl) rfl ?_
 refine O.oo 8 rfl ?_
 refine O.q (Qt.lv 0 A178 rfl rfl rfl) rfl ?_
 refine O.oo 1 rfl ?_
 refine O.q (Qt.lkOk (V := .int .i64 0) (q := false) N178 N3 Y3 rfl rfl (Mc.own 1 b242 rfl rfl) rfl rfl) rfl ?_
 refine O.oc 11 rfl ?_
 exact J.r1 [0, 1] rfl rfl rfl ⟨rfl, rfl⟩

set_option maxRecDepth 100000 in
theorem nb120 (g240 : Nat) (V241 : Value) (b242 : Nat) : Tri Tryz.prog 122 #[.pointer (some ⟨g240, 0, none⟩), .int .i64 0] [] [var g240 [V241, .int .i64 0, .int .i64 0, .map (some b242)] 180, row V241 3 1 ([[.int .i64 0], [.int .i64 0], [.int .i64 0], [.int .i64 0], [.int .i64 0], [.int .i64 0], [.int .i64 0], [.int .i64 0], [.int .i64 0], [.int .i64 0], [.int .i64 0], [.int .i64 0], [.int .i64 0], [.int .i64 0], [.int .i64 0], [.int .i64 0], [.int .i64 0], [.int .i64 0], [.int .i64 0], [.int .i64 0], [.int .i64 0], [.int .i64 0], [.int .i64 0], [.int .i64 0], [.int .i64 0], [.int .i64 0], [.int .i64 0], [.int .i64 0], [.int .i64 0], [.int .i64 0], [.int .i64 0], [.int .i64 0], [.int .i64 0], [.int .i64 0], [.int .i64 0], [.int .i64 0], [.int .i64 0], [.int .i64 0], [.int .i64 0], [.int .i64 0], [.int .i64 0], [.int .i64 0], [.int .i64 0], [.int .i64 0], [.int .i64 0], [.int .i64 0], [.int .i64 0], [.int .i64 0], [.int .i64 0], [.int .i64 0], [.int .i64 0], [.int .i64 0], [.int .i64 0], [.int .i64 0], [.int .i64 0], [.int .i64 0], [.int .i64 0], [.int .i64 0], [.int .i64 0], [.int .i64 0], [.int .i64 0], [.int .i64 0], [.int .i64 0], [.int .i64 0]].map id)] (fun v L' => v = .int .i64 0 ∧ L' = [var g240 [V241, .int .i64 0, .int .i64 0, .map (some b242)] 180, row V241 3 1 ([[.int .i64 0], [.int .i64 0], [.int .i64 0], [.int .i64 0], [.int .i64 0], [.int .i64 0], [.int .i64 0], [.int .i64 0], [.int .i64 0], [.int .i64 0], [.int .i64 0], [.int .i64 0], [.int .i64 0], [.int .i64 0], [.int .i64 0], [.int .i64 0], [.int .i64 0], [.int .i64 0], [.int .i64 0], [.int .i64 0], [.int .i64 0], [.int .i64 0], [.int .i64 0], [.int .i64 0], [.int .i64 0], [.int .i64 0], [.int .i64 0], [.int .i64 0], [.int .i64 0], [.int .i64 0], [.int .i64 0], [.int .i64 0], [.int .i64 0], [.int .i64 0], [.int .i64 0], [.int .i64 0], [.int .i64 0], [.int .i64 0], [.int .i64 0], [.int .i64 0], [.int .i64 0], [.int .i64 0], [.int .i64 0], [.int .i64 0], [.int .i64 0], [.int .i64 0], [.int .i64 0], [.int .i64 0], [.int .i64 0], [.int .i64 0], [.int .i64 0], [.int .i64 0], [.int .i64 0], [.int .i64 0], [.int .i64 0], [.int .i64 0], [.int .i64 0], [.int .i64 0], [.int .i64 0], [.int .i64 0], [.int .i64 0], [.int .i64 0], [.int .i64 0], [.int .i64 0]].map id)]) := by
 refine Tri.en F122 rfl K122 rfl fun w0 => ?_
 refine J.cc 5 rfl ?_
 refine J.drawStill Tryz.mixed (by kernel_rfl) ?_
 refine S.r 3 rfl ?_
 refine S.q (Qt.lv 0 A3 rfl rfl rfl) rfl ?_
 refine S.r 1 rfl ?_
 refine S.p (Pu.add' rfl rfl (by decide)) rfl ?_
 refine S.r 3 rfl ?_
 refine S.q (Qt.lv 0 A60 rfl rfl rfl) rfl ?_
 refine S.q (Qt.lenM U60 rfl (Src.row 1 rfl)) rfl ?_
 refine S.p (Pu.rem rfl rfl (by decide)) rfl ?_
 refine S.r 1 rfl ?_
 refine S.endJ ?_
 exact J.r1 [0, 1] rfl rfl rfl ⟨rfl, rfl⟩

set_option maxRecDepth 100000 in
theorem nb121 (g240 : Nat) (V241 : Value) (b242 : Nat) : Tri Tryz.prog 177 #[.pointer (some ⟨g240, 0, none⟩), .int .i64 1] [] [var g240 [V241, .int .i64 0, .int .i64 0, .map (some b242)] 180, mi b242 (Value.int .i64) ([] : List (Int × Int)), row V241 3 1 ([[.int .i64 0], [.int .i64 0], [.int .i64 0], [.int .i64 0], [.int .i64 0], [.int .i64 0], [.int .i64 0], [.int .i64 0], [.int .i64 0], [.int .i64 0], [.int .i64 0], [.int .i64 0], [.int .i64 0], [.int .i64 0], [.int .i64 0], [.int .i64 0], [.int .i64 0], [.int .i64 0], [.int .i64 0], [.int .i64 0], [.int .i64 0], [.int .i64 0], [.int .i64 0], [.int .i64 0], [.int .i64 0], [.int .i64 0], [.int .i64 0], [.int .i64 0], [.int .i64 0], [.int .i64 0], [.int .i64 0], [.int .i64 0], [.int .i64 0], [.int .i64 0], [.int .i64 0], [.int .i64 0], [.int .i64 0], [.int .i64 0], [.int .i64 0], [.int .i64 0], [.int .i64 0], [.int .i64 0], [.int .i64 0], [.int .i64 0], [.int .i64 0], [.int .i64 0], [.int .i64 0], [.int .i64 0], [.int .i64 0], [.int .i64 0], [.int .i64 0], [.int .i64 0], [.int .i64 0], [.int .i64 0], [.int .i64 0], [.int .i64 0], [.int .i64 0], [.int .i64 0], [.int .i64 0], [.int .i64 0], [.int .i64 0], [.int .i64 0], [.int .i64 0], [.int .i64 0]].map id)] (fun v L' => v = .bool true ∧ L' = [var g240 [V241, .int .i64 0, .int .i64 1, .map (some b242)] 180, mi b242 (Value.int .i64) [(1, 0)], row V241 3 1 ([[.int .i64 1], [.int .i64 0], [.int .i64 0], [.int .i64 0], [.int .i64 0], [.int .i64 0], [.int .i64 0], [.int .i64 0], [.int .i64 0], [.int .i64 0], [.int .i64 0], [.int .i64 0], [.int .i64 0], [.int .i64 0], [.int .i64 0], [.int .i64 0], [.int .i64 0], [.int .i64 0], [.int .i64 0], [.int .i64 0], [.int .i64 0], [.int .i64 0], [.int .i64 0], [.int .i64 0], [.int .i64 0], [.int .i64 0], [.int .i64 0], [.int .i64 0], [.int .i64 0], [.int .i64 0], [.int .i64 0], [.int .i64 0], [.int .i64 0], [.int .i64 0], [.int .i64 0], [.int .i64 0], [.int .i64 0], [.int .i64 0], [.int .i64 0], [.int .i64 0], [.int .i64 0], [.int .i64 0], [.int .i64 0], [.int .i64 0], [.int .i64 0], [.int .i64 0], [.int .i64 0], [.int .i64 0], [.int .i64 0], [.int .i64 0], [.int .i64 0], [.int .i64 0], [.int .i64 0], [.int .i64 0], [.int .i64 0], [.int .i64 0], [.int .i64 0], [.int .i64 0], [.int .i64 0], [.int .i64 0], [.int .i64 0], [.int .i64 0], [.int .i64 0], [.int .i64 0]].map id)]) := by
 refine Tri.en F177 rfl K177 rfl fun w0 => ?_
 refine J.co 9 rfl ?_
 refine O.l (Lo.ca C260 (nb119 g240 V241 b242) [0, 1] rfl rfl .nil) rfl ?_
 rintro _ _ ⟨_, ⟨rfl, rfl⟩, rfl⟩
 refine O.oo 7 rfl ?_
 refine O.p (Pu.someEq N83 rfl) rfl ?_
 refine O.oo 4 rfl ?_
 refine O.gz (Qt.lv 0 A60 rfl rfl rfl) rfl rfl ?_
 refine O.gz (Qt.lenM U60 rfl (Src.row 2 rfl)) rfl rfl ?_
 refine O.oc 7 rfl ?_
 refine J.drawStill Tryz.mixed (by kernel_rfl) ?_
 refine S.r 3 rfl ?_
 refine S.q (Qt.lv 0 A3 rfl rfl rfl) rfl ?_
 refine S.r 3 rfl ?_
 refine S.q (Qt.lv 0 A60 rfl rfl rfl) rfl ?_
 refine S.q (Qt.lenM U60 rfl (Src.row 2 rfl)) rfl ?_
 refine S.r 1 rfl ?_
 refine S.endJ ?_
 refine J.co 8 rfl ?_
 refine O.q (Qt.lv 0 A3 rfl rfl rfl) rfl ?_
 refine O.l (Lo.ca C122 (nb120 g240 V241 b242) [0, 2] rfl rfl .nil) rfl ?_
 rintro _ _ ⟨_, ⟨rfl, rfl⟩, rfl⟩
 refine O.oc 3 rfl ?_
 refine J.dm [(0, false), (1, false), (2, false), (3, false), (4, false), (5, false), (6, false), (7, false), (8, false), (9, false), (10, false), (11, false), (12, false), (13, true), (14, true), (15, false), (16, true)] [0, 1] Tryz.mixed (by kernel_rfl) rfl ?_
 refine Mx.r 3 rfl ?_
 refine Mx.q rfl (Qt.lv 0 A60 rfl rfl rfl) rfl ?_
 refine Mx.r 4 rfl ?_
 refine Mx.q rfl (Qt.lv 0 A178 rfl rfl rfl) rfl ?_
 refine Mx.r 3 rfl ?_
 refine Mx.q rfl (Qt.ix U60 Z3 rfl (Src.row 1 rfl) (j := 0) (a := [.int .i64 0]) rfl rfl rfl) rfl ?_
 refine Mx.l0 rfl (Lo.storeM 1 (j := 0) (off := 0) (vs := [.int .i64 1]) (e := [.int .i64 0]) [.int .i64 1] rfl rfl rfl rfl (by omega) rfl rfl Z3 rfl rfl rfl rfl rfl) ?_
 rintro _ _ rfl
 refine MxK.al [0, 1] rfl (by kernel_rfl) ?_
 refine Mx.l rfl (Lo.mapEnt 2 N178 N3 Y3 rfl rfl rfl) rfl ?_
 rintro _ _ ⟨V266, x267, rfl, rfl⟩
 refine MxK.al [0, 1] rfl (by kernel_rfl) ?_
 refine Mx.r 1 rfl ?_
 refine Mx.l0 rfl (Lo.entSt (u := 0) 2 rfl rfl rfl rfl) ?_
 rintro _ _ rfl
 refine MxK.al [0, 1] rfl (by kernel_rfl) ?_
 refine Mx.nil ?_
 refine J.co 5 rfl ?_
 refine O.q (Qt.lv 0 A3 rfl rfl rfl) rfl ?_
 refine O.p (Pu.add' rfl rfl (by decide)) rfl ?_
 refine O.oo 2 rfl ?_
 refine O.l0 (Lo.st 0 Z3 rfl rfl rfl rfl rfl rfl rfl) ?_
 rintro _ _ rfl
 refine O.oc 5 rfl ?_
 exact J.r1 [0, 2, 1] rfl rfl rfl ⟨rfl, rfl⟩

set_option maxRecDepth 100000 in
theorem nb122 (g228 : Nat) (g235 : Nat) (V230 : Value) (V233 : Value) (g240 : Nat) (g243 : Nat) (g246 : Nat) (b224 : Nat) (g225 : Nat) (g247 : Nat) (g244 : Nat) (b245 : Nat) (V241 : Value) (b242 : Nat) : Tri Tryz.prog 79 #[.pointer (some ⟨g228, 0, none⟩), .int .i64 1] [] [var g228 [.pointer (some ⟨g235, 0, none⟩), .int .i64 2, .int .i64 4, .int .i64 1000, .int .u64 1, V230, .int .i64 0, .int .i64 1, .int .i64 1, .int .i64 10, .int .i64 1, .int .i64 64, .int .i64 20, .int .i64 1, .int .i64 4, .int .i64 10, .int .i64 5, .int .i64 1, .int .i64 3, .int .i64 2, V233, .int .i64 0, .int .i64 0, .int .i64 0, .int .i64 0, .pointer (some ⟨g240, 0, none⟩), .pointer (some ⟨g243, 0, none⟩), .pointer (some ⟨g246, 0, none⟩), .map (some b224), .pointer (some ⟨g225, 0, none⟩), .pointer (some ⟨g247, 0, none⟩)] 90, mi b224 (id : Value → Value) ([] : List (Int × Value)), var g243 [.pointer (some ⟨g244, 0, none⟩), .int .i64 1] 206, var g244 [.map (some b245), .int .i64 1, Value.slice none 0 0] 294, mi b245 (Value.int .i64) ([] : List (Int × Int)), var g240 [V241, .int .i64 0, .int .i64 0, .map (some b242)] 180, mi b242 (Value.int .i64) ([] : List (Int × Int)), row V241 3 1 ([[.int .i64 0], [.int .i64 0], [.int .i64 0], [.int .i64 0], [.int .i64 0], [.int .i64 0], [.int .i64 0], [.int .i64 0], [.int .i64 0], [.int .i64 0], [.int .i64 0], [.int .i64 0], [.int .i64 0], [.int .i64 0], [.int .i64 0], [.int .i64 0], [.int .i64 0], [.int .i64 0], [.int .i64 0], [.int .i64 0], [.int .i64 0], [.int .i64 0], [.int .i64 0], [.int .i64 0], [.int .i64 0], [.int .i64 0], [.int .i64 0], [.int .i64 0], [.int .i64 0], [.int .i64 0], [.int .i64 0], [.int .i64 0], [.int .i64 0], [.int .i64 0], [.int .i64 0], [.int .i64 0], [.int .i64 0], [.int .i64 0], [.int .i64 0], [.int .i64 0], [.int .i64 0], [.int .i64 0], [.int .i64 0], [.int .i64 0], [.int .i64 0], [.int .i64 0], [.int .i64 0], [.int .i64 0], [.int .i64 0], [.int .i64 0], [.int .i64 0], [.int .i64 0], [.int .i64 0], [.int .i64 0], [.int .i64 0], [.int .i64 0], [.int .i64 0], [.int .i64 0], [.int .i64 0], [.int .i64 0], [.int .i64 0], [.int .i64 0], [.int .i64 0], [.int .i64 0]].map id)] (fun v L' => v = .bool false ∧ L' = [var g228 [.pointer (some ⟨g235, 0, none⟩), .int .i64 2, .int .i64 4, .int .i64 1000, .int .u64 1, V230, .int .i64 0, .int .i64 1, .int .i64 1, .int .i64 10, .int .i64 1, .int .i64 64, .int .i64 20, .int .i64 1, .int .i64 4, .int .i64 10, .int .i64 5, .int .i64 1, .int .i64 3, .int .i64 2, V233, .int .i64 0, .int .i64 0, .int .i64 0, .int .i64 0, .pointer (some ⟨g240, 0, none⟩), .pointer (some ⟨g243, 0, none⟩), .pointer (some ⟨g246, 0, none⟩), .map (some b224), .pointer (some ⟨g225, 0, none⟩), .pointer (some ⟨g247, 0, none⟩)] 90, mi b224 (id : Value → Value) ([] : List (Int × Value)), var g243 [.pointer (some ⟨g244, 0, none⟩), .int .i64 1] 206, var g244 [.map (some b245), .int .i64 1, Value.slice none 0 0] 294, mi b245 (Value.int .i64) ([] : List (Int × Int)), var g240 [V241, .int .i64 0, .int .i64 1, .map (some b242)] 180, mi b242 (Value.int .i64) [(1, 0)], row V241 3 1 ([[.int .i64 1], [.int .i64 0], [.int .i64 0], [.int .i64 0], [.int .i64 0], [.int .i64 0], [.int .i64 0], [.int .i64 0], [.int .i64 0], [.int .i64 0], [.int .i64 0], [.int .i64 0], [.int .i64 0], [.int .i64 0], [.int .i64 0], [.int .i64 0], [.int .i64 0], [.int .i64 0], [.int .i64 0], [.int .i64 0], [.int .i64 0], [.int .i64 0], [.int .i64 0], [.int .i64 0], [.int .i64 0], [.int .i64 0], [.int .i64 0], [.int .i64 0], [.int .i64 0], [.int .i64 0], [.int .i64 0], [.int .i64 0], [.int .i64 0], [.int .i64 0], [.int .i64 0], [.int .i64 0], [.int .i64 0], [.int .i64 0], [.int .i64 0], [.int .i64 0], [.int .i64 0], [.int .i64 0], [.int .i64 0], [.int .i64 0], [.int .i64 0], [.int .i64 0], [.int .i64 0], [.int .i64 0], [.int .i64 0], [.int .i64 0], [.int .i64 0], [.int .i64 0], [.int .i64 0], [.int .i64 0], [.int .i64 0], [.int .i64 0], [.int .i64 0], [.int .i64 0], [.int .i64 0], [.int .i64 0], [.int .i64 0], [.int .i64 0], [.int .i64 0], [.int .i64 0]].map id)]) := by
 refine Tri.en F79 rfl K79 rfl fun w0 => ?_
 refine J.co 9 rfl ?_
 refine O.q (Qt.lv 0 A86 rfl rfl rfl) rfl ?_
 refine O.oo 1 rfl ?_
 refine O.q (Qt.lkOk (V := .agg #[.int .i64 0, .int .i64 0, .int .i64 0, .int .i64 0, .int .i64 0, .int .i64 0, .int .i64 0, .int .i64 0, Value.slice none 0 0]) (q := false) N86 N3 Y68 rfl rfl (Mc.own 1 b224 rfl rfl) rfl rfl) rfl ?_
 refine O.oo 3 rfl ?_
 refine O.l (Lo.al Y68 rfl) rfl ?_
 rintro _ _ ⟨g263, rfl, rfl⟩
 refine O.l0 (Lo.st 0 Z68 rfl rfl rfl rfl rfl rfl rfl) ?_
 rintro _ _ rfl
 refine O.oo 9 rfl ?_
 refine O.gz (Qt.lv 1 A84 rfl rfl rfl) rfl rfl ?_
 refine O.oo 1 rfl ?_
 refine O.gy (Lo.ca C176 (nb118 g243 g244 b245) [3, 4, 5] rfl rfl .nil) rfl rfl ?_
 rintro _ _ ⟨_, ⟨rfl, rfl⟩, rfl⟩
 refine O.oo 5 rfl ?_
 refine O.gz (Qt.lv 4 A83 rfl rfl rfl) rfl rfl ?_
 refine O.oo 1 rfl ?_
 refine O.gy (Lo.ca C177 (nb121 g240 V241 b242) [6, 7, 8] rfl rfl .nil) rfl rfl ?_
 rintro _ _ ⟨_, ⟨rfl, rfl⟩, rfl⟩
 refine O.oc 4 rfl ?_
 exact J.r1 [7, 8, 3, 4, 5, 0, 1, 2] rfl rfl rfl ⟨rfl, rfl⟩

set_option maxRecDepth 100000 in
theorem nb123 (g235 : Nat) (g236 : Nat) (g237 : Nat) (g238 : Nat) (g239 : Nat) : Tri Tryz.prog 173 #[.pointer (some ⟨g235, 0, none⟩)] [] [var g235 [.pointer (some ⟨g236, 0, none⟩), .pointer (some ⟨g237, 0, none⟩), .int .i64 8, .int .i64 1, .int .i64 1, .int .i64 4, .int .i64 10, .int .i64 5, .int .i64 1, .int .i64 3, .int .i64 2, .pointer (some ⟨g238, 0, none⟩), .pointer (some ⟨g239, 0, none⟩), .int .i64 8, .int .i64 1] 172] (fun v L' => v = .bool true ∧ L' = [var g235 [.pointer (some ⟨g236, 0, none⟩), .pointer (some ⟨g237, 0, none⟩), .int .i64 8, .int .i64 1, .int .i64 1, .int .i64 4, .int .i64 10, .int .i64 5, .int .i64 1, .int .i64 3, .int .i64 2, .pointer (some ⟨g238, 0, none⟩), .pointer (some ⟨g239, 0, none⟩), .int .i64 8, .int .i64 1] 172]) := by
 refine Tri.en F173 rfl K173 rfl fun w0 => ?_
 refine J.co 7 rfl ?_
 refine O.p (Pu.ptrNe N82 rfl) rfl ?_
 refine O.oo 4 rfl ?_
 refine O.gz (Qt.lv 0 A169 rfl rfl rfl) rfl rfl ?_
 refine O.gz (Pu.qt (Pu.ptrNe N169 rfl)) rfl rfl ?_
 refine O.oc 3 rfl ?_
 exact J.r1 [0] rfl rfl rfl ⟨rfl, rfl⟩

set_option maxRecDepth 100000 in
theorem nb124 (g238 : Nat) : Tri Tryz.prog 315 #[.pointer (some ⟨g238, 0, none⟩), .int .i64 2] [] [var g238 (.int .i64 8 :: (rp 128 (.int .i64 0) [])) 302] (fun v L' => v = .bool true ∧ L' = [var g238 (.int .i64 8 :: (rp 128 (.int .i64 0) [])) 302]) := by
 refine Tri.en F315 rfl K315 rfl fun w0 => ?_
 refine J.co 7 rfl ?_
 refine O.p (Pu.ptrNe N169 rfl) rfl ?_
 refine O.oo 9 rfl ?_
 refine O.gz (Qt.lv 0 A3 rfl rfl rfl) rfl rfl ?_
 refine O.oc 4 rfl ?_
 exact J.r1 [0] rfl rfl rfl ⟨rfl, rfl⟩

set_option maxRecDepth 100000 in
theorem nb125 : Tri Tryz.prog 199 #[.int .i64 0, .int .i64 2147483647] [] [] (fun v L' => v = .int .i64 0 ∧ L' = []) := by
 refine Tri.en F199 rfl K199 rfl fun w0 => ?_
 refine J.co 8 rfl ?_
 refine O.p (Pu.min rfl rfl) rfl ?_
 refine O.p (Pu.max rfl rfl) rfl ?_
 refine O.oc 2 rfl ?_
 exact J.r0 rfl rfl ⟨rfl, rfl⟩

set_option maxRecDepth 100000 in
theorem nb126 : Tri Tryz.prog 199 #[.int .i64 1, .int .i64 2147483647] [] [] (fun v L' => v = .int .i64 1 ∧ L' = []) := by
 refine Tri.en F199 rfl K199 rfl fun w0 => ?_
 refine J.co 8 rfl ?_
 refine O.p (Pu.min rfl rfl) rfl ?_
 refine O.p (Pu.max rfl rfl) rfl ?_
 refine O.oc 2 rfl ?_
 exact J.r0 rfl rfl ⟨rfl, rfl⟩

set_option maxRecDepth 100000 in
theorem nb127 : Tri Tryz.prog 205 #[.int .i64 0, .int .i64 1] [] [] (fun v L' => v = .int .i64 1 ∧ L' = []) := by
 refine Tri.en F205 rfl K205 rfl fun w0 => ?_
 refine J.co 8 rfl ?_
 refine O.p (Pu.add' rfl rfl (by decide)) rfl ?_
 refine O.oc 2 rfl ?_
 exact J.r0 rfl rfl ⟨rfl, rfl⟩

set_option maxRecDepth 100000 in
theorem nb128 : Tri Tryz.prog 226 #[.int .i64 0, .int .i64 1, .func (.func 205) #[] #[]] [] [] (fun v L' => v = .int .i64 1 ∧ L' = []) := by
 refine Tri.en F226 rfl K226 rfl fun w0 => ?_
 refine J.co 8 rfl ?_
 refine O.l (Lo.ca C199 nb125 [] rfl rfl .nil) rfl ?_
 rintro _ _ ⟨_, ⟨rfl, rfl⟩, rfl⟩
 refine O.oo 1 rfl ?_
 refine O.l (Lo.ca C199 nb126 [] rfl rfl .nil) rfl ?_
 rintro _ _ ⟨_, ⟨rfl, rfl⟩, rfl⟩
 refine O.l (Lo.cv C205 rfl rfl nb127 [] rfl .nil) rfl ?_
 rintro _ _ ⟨_, ⟨rfl, rfl⟩, rfl⟩
 refine O.l (Lo.ca C199 nb126 [] rfl rfl .nil) rfl ?_
 rintro _ _ ⟨_, ⟨rfl, rfl⟩, rfl⟩
 refine O.oc 2 rfl ?_
 exact J.r0 rfl rfl ⟨rfl, rfl⟩

set_option maxRecDepth 100000 in
theorem nb129 : Tri Tryz.prog 288 #[.int .i64 0, .int .i64 1] [] [] (fun v L' => v = .int .i64 1 ∧ L' = []) := by
 refine Tri.en F288 rfl K288 rfl fun w0 => ?_
 refine J.co 8 rfl ?_
 refine O.l (Lo.ca C226 nb128 [] rfl rfl .nil) rfl ?_
 rintro _ _ ⟨_, ⟨rfl, rfl⟩, rfl⟩
 refine O.oc 2 rfl ?_
 exact J.r0 rfl rfl ⟨rfl, rfl⟩

set_option maxRecDepth 100000 in
theorem nb130 (g238 : Nat) : Tri Tryz.prog 261 #[.pointer (some ⟨g238, 0, none⟩), .int .i64 2, .int .i64 1] [] [var g238 (.int .i64 8 :: (rp 128 (.int .i64 0) [])) 302] (fun v L' => v = .bool true ∧ L' = [var g238 (.int .i64 8 :: .int .i64 0 :: .int .i64 0 :: .int .i64 1 :: (rp 125 (.int .i64 0) [])) 302]) := by
 refine Tri.en F261 rfl K261 rfl fun w0 => ?_
 refine J.co 9 rfl ?_
 refine O.l (Lo.ca C315 (nb124 g238) [0] rfl rfl .nil) rfl ?_
 rintro _ _ ⟨_, ⟨rfl, rfl⟩, rfl⟩
 refine O.oc 5 rfl ?_
 refine J.dm [(0, false), (1, false), (2, false), (3, false), (4, false), (5, false), (6, false), (7, false), (8, false), (10, false), (11, false), (9, true), (12, false), (13, true)] [0] Tryz.mixed (by kernel_rfl) rfl ?_
 refine Mx.r 6 rfl ?_
 refine Mx.p rfl (Pu.indexAddrK 3 U300 Z3 rfl rfl (by decide) (by decide) rfl) rfl ?_
 refine Mx.q rfl (Qt.lv 0 A3 rfl rfl rfl) rfl ?_
 refine Mx.r 3 rfl ?_
 refine Mx.l rfl (Lo.ca C288 nb129 [] rfl rfl .nil) rfl ?_
 rintro _ _ ⟨_, ⟨rfl, rfl⟩, rfl⟩
 refine MxK.gp [0] [0] rfl rfl ?_
 refine Mx.p rfl (Pu.indexAddrK 3 U300 Z3 rfl rfl (by decide) (by decide) rfl) rfl ?_
 refine Mx.l0 rfl (Lo.st 0 Z3 rfl rfl rfl rfl rfl rfl rfl) ?_
 rintro _ _ rfl
 refine MxK.al [0] rfl (by kernel_rfl) ?_
 refine Mx.nil ?_
 refine J.cc 4 rfl ?_
 exact J.r1 [0] rfl rfl rfl ⟨rfl, rfl⟩

set_option maxRecDepth 100000 in
theorem nb131 (g238 : Nat) : Tri Tryz.prog 178 #[.pointer (some ⟨g238, 0, none⟩), .int .i64 2] [] [var g238 (.int .i64 8 :: (rp 128 (.int .i64 0) [])) 302] (fun v L' => v = .bool true ∧ L' = [var g238 (.int .i64 8 :: .int .i64 0 :: .int .i64 0 :: .int .i64 1 :: (rp 125 (.int .i64 0) [])) 302]) := by
 refine Tri.en F178 rfl K178 rfl fun w0 => ?_
 refine J.co 8 rfl ?_
 refine O.l (Lo.ca C261 (nb130 g238) [0] rfl rfl .nil) rfl ?_
 rintro _ _ ⟨_, ⟨rfl, rfl⟩, rfl⟩
 refine O.oc 2 rfl ?_
 exact J.r1 [0] rfl rfl rfl ⟨rfl, rfl⟩

set_option maxRecDepth 100000 in
theorem nb132 (g235 : Nat) (g236 : Nat) (g237 : Nat) (g238 : Nat) (g239 : Nat) : Tri Tryz.prog 81 #[.pointer (some ⟨g235, 0, none⟩), .int .i64 2] [] [var g235 [.pointer (some ⟨g236, 0, none⟩), .pointer (some ⟨g237, 0, none⟩), .int .i64 8, .int .i64 1, .int .i64 1, .int .i64 4, .int .i64 10, .int .i64 5, .int .i64 1, .int .i64 3, .int .i64 2, .pointer (some ⟨g238, 0, none⟩), .pointer (some ⟨g239, 0, none⟩), .int .i64 8, .int .i64 1] 172, var g238 (.int .i64 8 :: (rp 128 (.int .i64 0) [])) 302] (fun v L' => v = .bool true ∧ L' = [var g235 [.pointer (some ⟨g236, 0, none⟩), .pointer (some ⟨g237, 0, none⟩), .int .i64 8, .int .i64 1, .int .i64 1, .int .i64 4, .int .i64 10, .int .i64 5, .int .i64 1, .int .i64 3, .int .i64 2, .pointer (some ⟨g238, 0, none⟩), .pointer (some ⟨g239, 0, none⟩), .int .i64 8, .int .i64 1] 172, var g238 (.int .i64 8 :: .int .i64 0 :: .int .i64 0 :: .int .i64 1 :: (rp 125 (.int .i64 0) [])) 302]) := by
 refine Tri.en F81 rfl K81 rfl fun w0 => ?_
 refine J.co 7 rfl ?_
 refine O.l (Lo.ca C173 (nb123 g235 g236 g237 g238 g239) [0] rfl rfl .nil) rfl ?_
 rintro _ _ ⟨_, ⟨rfl, rfl⟩, rfl⟩
 refine O.oo 4 rfl ?_
 refine O.gz (Qt.lv 0 A169 rfl rfl rfl) rfl rfl ?_
 refine O.oo 1 rfl ?_
 refine O.gy (Lo.ca C178 (nb131 g238) [1] rfl rfl .nil) rfl rfl ?_
 rintro _ _ ⟨_, ⟨rfl, rfl⟩, rfl⟩
 refine O.oc 3 rfl ?_
 exact J.r1 [1, 0] rfl rfl rfl ⟨rfl, rfl⟩

set_option maxRecDepth 100000 in
theorem nb133 (g235 : Nat) (g236 : Nat) (g237 : Nat) (g238 : Nat) (g239 : Nat) : Tri Tryz.prog 44 #[.pointer (some ⟨g235, 0, none⟩)] [] [var g235 [.pointer (some ⟨g236, 0, none⟩), .pointer (some ⟨g237, 0, none⟩), .int .i64 8, .int .i64 1, .int .i64 1, .int .i64 4, .int .i64 10, .int .i64 5, .int .i64 1, .int .i64 3, .int .i64 2, .pointer (some ⟨g238, 0, none⟩), .pointer (some ⟨g239, 0, none⟩), .int .i64 8, .int .i64 1] 172] (fun v L' => v = .int .i64 8 ∧ L' = [var g235 [.pointer (some ⟨g236, 0, none⟩), .pointer (some ⟨g237, 0, none⟩), .int .i64 8, .int .i64 1, .int .i64 1, .int .i64 4, .int .i64 10, .int .i64 5, .int .i64 1, .int .i64 3, .int .i64 2, .pointer (some ⟨g238, 0, none⟩), .pointer (some ⟨g239, 0, none⟩), .int .i64 8, .int .i64 1] 172]) := by
 refine Tri.en F44 rfl K44 rfl fun w0 => ?_
 refine J.co 8 rfl ?_
 refine O.p (Pu.someEq N82 rfl) rfl ?_
 refine O.oo 8 rfl ?_
 refine O.q (Qt.lv 0 A3 rfl rfl rfl) rfl ?_
 refine O.oc 2 rfl ?_
 exact J.r1 [0] rfl rfl rfl ⟨rfl, rfl⟩

set_option maxRecDepth 100000 in
theorem nb134 : Tri Tryz.prog 262 #[.int .i64 2, .int .i64 8] [] [] (fun v L' => v = .bool true ∧ L' = []) := by
 refine Tri.en F262 rfl K262 rfl fun w0 => ?_
 refine J.cc 15 rfl ?_
 exact J.r0 rfl rfl ⟨rfl, rfl⟩

set_option maxRecDepth 100000 in
theorem nb135 (g235 : Nat) (g236 : Nat) (g237 : Nat) (g238 : Nat) (g239 : Nat) : Tri Tryz.prog 179 #[.pointer (some ⟨g235, 0, none⟩), .int .i64 2] [] [var g235 [.pointer (some ⟨g236, 0, none⟩), .pointer (some ⟨g237, 0, none⟩), .int .i64 8, .int .i64 1, .int .i64 1, .int .i64 4, .int .i64 10, .int .i64 5, .int .i64 1, .int .i64 3, .int .i64 2, .pointer (some ⟨g238, 0, none⟩), .pointer (some ⟨g239, 0, none⟩), .int .i64 8, .int .i64 1] 172] (fun v L' => v = .bool true ∧ L' = [var g235 [.pointer (some ⟨g236, 0, none⟩), .pointer (some ⟨g237, 0, none⟩), .int .i64 8, .int .i64 1, .int .i64 1, .int .i64 4, .int .i64 10, .int .i64 5, .int .i64 1, .int .i64 3, .int .i64 2, .pointer (some ⟨g238, 0, none⟩), .pointer (some ⟨g239, 0, none⟩), .int .i64 8, .int .i64 1] 172]) := by
 refine Tri.en F179 rfl K179 rfl fun w0 => ?_
 refine J.co 8 rfl ?_
 refine O.l (Lo.ca C44 (nb133 g235 g236 g237 g238 g239) [0] rfl rfl .nil) rfl ?_
 rintro _ _ ⟨_, ⟨rfl, rfl⟩, rfl⟩
 refine O.l (Lo.ca C262 nb134 [] rfl rfl .nil) rfl ?_
 rintro _ _ ⟨_, ⟨rfl, rfl⟩, rfl⟩
 refine O.oc 2 rfl ?_
 exact J.r1 [0] rfl rfl rfl ⟨rfl, rfl⟩

set_option maxRecDepth 100000 in
theorem nb136 (g228 : Nat) (g235 : Nat) (V230 : Value) (V233 : Value) (g240 : Nat) (g243 : Nat) (g246 : Nat) (b224 : Nat) (g225 : Nat) (g247 : Nat) (g236 : Nat) (g237 : Nat) (g238 : Nat) (g239 : Nat) : Tri Tryz.prog 82 #[.pointer (some ⟨g228, 0, none⟩), .agg #[.int .i64 1, .int .i64 (-1), .int .i64 0, .int .i64 2, .int .i64 50, .int .i64 9]] [] [var g228 [.pointer (some ⟨g235, 0, none⟩), .int .i64 2, .int .i64 4, .int .i64 1000, .int .u64 1, V230, .int .i64 0, .int .i64 1, .int .i64 1, .int .i64 10, .int .i64 1, .int .i64 64, .int .i64 20, .int .i64 1, .int .i64 4, .int .i64 10, .int .i64 5, .int .i64 1, .int .i64 3, .int .i64 2, V233, .int .i64 0, .int .i64 0, .int .i64 0, .int .i64 0, .pointer (some ⟨g240, 0, none⟩), .pointer (some ⟨g243, 0, none⟩), .pointer (some ⟨g246, 0, none⟩), .map (some b224), .pointer (some ⟨g225, 0, none⟩), .pointer (some ⟨g247, 0, none⟩)] 90, var g235 [.pointer (some ⟨g236, 0, none⟩), .pointer (some ⟨g237, 0, none⟩), .int .i64 8, .int .i64 1, .int .i64 1, .int .i64 4, .int .i64 10, .int .i64 5, .int .i64 1, .int .i64 3, .int .i64 2, .pointer (some ⟨g238, 0, none⟩), .pointer (some ⟨g239, 0, none⟩), .int .i64 8, .int .i64 1] 172] (fun v L' => v = .int .i64 0 ∧ L' = [var g228 [.pointer (some ⟨g235, 0, none⟩), .int .i64 2, .int .i64 4, .int .i64 1000, .int .u64 1, V230, .int .i64 0, .int .i64 1, .int .i64 1, .int .i64 10, .int .i64 1, .int .i64 64, .int .i64 20, .int .i64 1, .int .i64 4, .int .i64 10, .int .i64 5, .int .i64 1, .int .i64 3, .int .i64 2, V233, .int .i64 0, .int .i64 0, .int .i64 0, .int .i64 0, .pointer (some ⟨g240, 0, none⟩), .pointer (some ⟨g243, 0, none⟩), .pointer (some ⟨g246, 0, none⟩), .map (some b224), .pointer (some ⟨g225, 0, none⟩), .pointer (some ⟨g247, 0, none⟩)] 90, var g235 [.pointer (some ⟨g236, 0, none⟩), .pointer (some ⟨g237, 0, none⟩), .int .i64 8, .int .i64 1, .int .i64 1, .int .i64 4, .int .i64 10, .int .i64 5, .int .i64 1, .int .i64 3, .int .i64 2, .pointer (some ⟨g238, 0, none⟩), .pointer (some ⟨g239, 0, none⟩), .int .i64 8, .int .i64 1] 172]) := by
 refine Tri.en F82 rfl K82 rfl fun w0 => ?_
 refine J.co 2 rfl ?_
 refine O.l (Lo.bx rfl rfl) rfl ?_
 rintro _ _ ⟨g268, rfl, rfl⟩
 refine O.oc 5 rfl ?_
 refine J.drawStill Tryz.mixed (by kernel_rfl) ?_
 refine S.r 1 rfl ?_
 refine S.q (Qt.lv 0 A3 rfl rfl rfl) rfl ?_
 refine S.r 3 rfl ?_
 refine S.q (Qt.lv 1 A3 rfl rfl rfl) rfl ?_
 refine S.r 2 rfl ?_
 refine S.endJ ?_
 refine J.cc 2 rfl ?_
 refine J.drawTail 6 Tryz.mixed (by kernel_rfl) ?_
 refine S.r 3 rfl ?_
 refine S.q (Qt.lv 1 A82 rfl rfl rfl) rfl ?_
 refine S.r 1 rfl ?_
 refine S.q (Qt.lv 0 A3 rfl rfl rfl) rfl ?_
 refine S.endO ?_
 refine O.l (Lo.ca C179 (nb135 g235 g236 g237 g238 g239) [2] rfl rfl .nil) rfl ?_
 rintro _ _ ⟨_, ⟨rfl, rfl⟩, rfl⟩
 refine O.oc 10 rfl ?_
 exact J.r1 [2, 0] rfl rfl rfl ⟨rfl, rfl⟩

set_option maxRecDepth 100000 in
theorem nb137 (g228 : Nat) (g235 : Nat) (V230 : Value) (V233 : Value) (g240 : Nat) (g243 : Nat) (g246 : Nat) (b224 : Nat) (g225 : Nat) (g247 : Nat) : Tri Tryz.prog 42 #[.pointer (some ⟨g228, 0, none⟩)] [] [var g228 [.pointer (some ⟨g235, 0, none⟩), .int .i64 2, .int .i64 4, .int .i64 1000, .int .u64 1, V230, .int .i64 0, .int .i64 1, .int .i64 1, .int .i64 10, .int .i64 1, .int .i64 64, .int .i64 20, .int .i64 1, .int .i64 4, .int .i64 10, .int .i64 5, .int .i64 1, .int .i64 3, .int .i64 2, V233, .int .i64 0, .int .i64 0, .int .i64 0, .int .i64 0, .pointer (some ⟨g240, 0, none⟩), .pointer (some ⟨g243, 0, none⟩), .pointer (some ⟨g246, 0, none⟩), .map (some b224), .pointer (some ⟨g225, 0, none⟩), .pointer (some ⟨g247, 0, none⟩)] 90] (fun v L' => v = .pointer (some ⟨g235, 0, none⟩) ∧ L' = [var g228 [.pointer (some ⟨g235, 0, none⟩), .int .i64 2, .int .i64 4, .int .i64 1000, .int .u64 1, V230, .int .i64 0, .int .i64 1, .int .i64 1, .int .i64 10, .int .i64 1, .int .i64 64, .int .i64 20, .int .i64 1, .int .i64 4, .int .i64 10, .int .i64 5, .int .i64 1, .int .i64 3, .int .i64 2, V233, .int .i64 0, .int .i64 0, .int .i64 0, .int .i64 0, .pointer (some ⟨g240, 0, none⟩), .pointer (some ⟨g243, 0, none⟩), .pointer (some ⟨g246, 0, none⟩), .map (some b224), .pointer (some ⟨g225, 0, none⟩), .pointer (some ⟨g247, 0, none⟩)] 90]) := by
 refine Tri.en F42 rfl K42 rfl fun w0 => ?_
 refine J.co 8 rfl ?_
 refine O.p (Pu.someEq N29 rfl) rfl ?_
 refine O.oo 8 rfl ?_
 refine O.q (Qt.lv 0 A82 rfl rfl rfl) rfl ?_
 refine O.oc 2 rfl ?_
 exact J.r1 [0] rfl rfl rfl ⟨rfl, rfl⟩

set_option maxRecDepth 100000 in
theorem nb138 (g228 : Nat) (g235 : Nat) (V230 : Value) (V233 : Value) (g240 : Nat) (g243 : Nat) (g246 : Nat) (b224 : Nat) (g225 : Nat) (g247 : Nat) (g236 : Nat) (g237 : Nat) (g238 : Nat) (g239 : Nat) : Tri Tryz.prog 18 #[.pointer (some ⟨g228, 0, none⟩)] [] [var g228 [.pointer (some ⟨g235, 0, none⟩), .int .i64 2, .int .i64 4, .int .i64 1000, .int .u64 1, V230, .int .i64 0, .int .i64 1, .int .i64 1, .int .i64 10, .int .i64 1, .int .i64 64, .int .i64 20, .int .i64 1, .int .i64 4, .int .i64 10, .int .i64 5, .int .i64 1, .int .i64 3, .int .i64 2, V233, .int .i64 0, .int .i64 0, .int .i64 0, .int .i64 0, .pointer (some ⟨g240, 0, none⟩), .pointer (some ⟨g243, 0, none⟩), .pointer (some ⟨g246, 0, none⟩), .map (some b224), .pointer (some ⟨g225, 0, none⟩), .pointer (some ⟨g247, 0, none⟩)] 90, var g235 [.pointer (some ⟨g236, 0, none⟩), .pointer (some ⟨g237, 0, none⟩), .int .i64 8, .int .i64 1, .int .i64 1, .int .i64 4, .int .i64 10, .int .i64 5, .int .i64 1, .int .i64 3, .int .i64 2, .pointer (some ⟨g238, 0, none⟩), .pointer (some ⟨g239, 0, none⟩), .int .i64 8, .int .i64 1] 172] (fun v L' => v = .int .i64 8 ∧ L' = [var g228 [.pointer (some ⟨g235, 0, none⟩), .int .i64 2, .int .i64 4, .int .i64 1000, .int .u64 1, V230, .int .i64 0, .int .i64 1, .int .i64 1, .int .i64 10, .int .i64 1, .int .i64 64, .int .i64 20, .int .i64 1, .int .i64 4, .int .i64 10, .int .i64 5, .int .i64 1, .int .i64 3, .int .i64 2, V233, .int .i64 0, .int .i64 0, .int .i64 0, .int .i64 0, .pointer (some ⟨g240, 0, none⟩), .pointer (some ⟨g243, 0, none⟩), .pointer (some ⟨g246, 0, none⟩), .map (some b224), .pointer (some ⟨g225, 0, none⟩), .pointer (some ⟨g247, 0, none⟩)] 90, var g235 [.pointer (some ⟨g236, 0, none⟩), .pointer (some ⟨g237, 0, none⟩), .int .i64 8, .int .i64 1, .int .i64 1, .int .i64 4, .int .i64 10, .int .i64 5, .int .i64 1, .int .i64 3, .int .i64 2, .pointer (some ⟨g238, 0, none⟩), .pointer (some ⟨g239, 0, none⟩), .int .i64 8, .int .i64 1] 172]) := by
 refine Tri.en F18 rfl K18 rfl fun w0 => ?_
 refine J.co 7 rfl ?_
 refine O.l (Lo.ca C42 (nb137 g228 g235 V230 V233 g240 g243 g246 b224 g225 g247) [0] rfl rfl .nil) rfl ?_
 rintro _ _ ⟨_, ⟨rfl, rfl⟩, rfl⟩
 refine O.l (Lo.ca C44 (nb133 g235 g236 g237 g238 g239) [1] rfl rfl .nil) rfl ?_
 rintro _ _ ⟨_, ⟨rfl, rfl⟩, rfl⟩
 refine O.oc 2 rfl ?_
 exact J.r1 [1, 0] rfl rfl rfl ⟨rfl, rfl⟩

set_option maxRecDepth 100000 in
theorem nb139 (g253 : Nat) (g228 : Nat) (g235 : Nat) (V230 : Value) (V233 : Value) (g240 : Nat) (g243 : Nat) (g246 : Nat) (b224 : Nat) (g225 : Nat) (g247 : Nat) : Tri Tryz.prog 80 #[.pointer (some ⟨g253, 0, none⟩), .int .i64 1, .int .i64 1, .int .i64 0, .int .i64 2, .int .i64 8] [] [var g253 [.pointer (some ⟨g228, 0, none⟩), Value.slice none 0 0, Value.slice none 0 0] 261, var g228 [.pointer (some ⟨g235, 0, none⟩), .int .i64 2, .int .i64 4, .int .i64 1000, .int .u64 1, V230, .int .i64 0, .int .i64 1, .int .i64 1, .int .i64 10, .int .i64 1, .int .i64 64, .int .i64 20, .int .i64 1, .int .i64 4, .int .i64 10, .int .i64 5, .int .i64 1, .int .i64 3, .int .i64 2, V233, .int .i64 0, .int .i64 0, .int .i64 0, .int .i64 0, .pointer (some ⟨g240, 0, none⟩), .pointer (some ⟨g243, 0, none⟩), .pointer (some ⟨g246, 0, none⟩), .map (some b224), .pointer (some ⟨g225, 0, none⟩), .pointer (some ⟨g247, 0, none⟩)] 90] (fun v L' => ∃ (V270 : Value), v = .tuple #[] ∧ L' = [var g253 [.pointer (some ⟨g228, 0, none⟩), V270, Value.slice none 0 0] 261, var g228 [.pointer (some ⟨g235, 0, none⟩), .int .i64 2, .int .i64 4, .int .i64 1000, .int .u64 1, V230, .int .i64 0, .int .i64 1, .int .i64 1, .int .i64 10, .int .i64 1, .int .i64 64, .int .i64 20, .int .i64 1, .int .i64 4, .int .i64 10, .int .i64 5, .int .i64 1, .int .i64 3, .int .i64 2, V233, .int .i64 0, .int .i64 0, .int .i64 0, .int .i64 0, .pointer (some ⟨g240, 0, none⟩), .pointer (some ⟨g243, 0, none⟩), .pointer (some ⟨g246, 0, none⟩), .map (some b224), .pointer (some ⟨g225, 0, none⟩), .pointer (some ⟨g247, 0, none⟩)] 90, row V270 51 7 ([[.int .i64 1, .int .i64 0, .int .i64 0, .int .i64 1, .int .i64 0, .int .i64 2, .int .i64 8]].map id)]) := by
 refine Tri.en F80 rfl K80 rfl fun w0 => ?_
 refine J.dm [(0, false), (1, false), (2, false), (3, false), (4, false), (5, false), (6, false), (7, false), (8, false), (9, false), (10, false), (11, false), (12, false), (13, false), (14, false), (15, false), (16, false), (17, false), (18, false), (19, false), (20, false), (21, false), (22, false), (23, false), (24, false), (25, false), (26, true), (27, true), (28, false), (29, false), (30, false), (31, true)] [0, 1] Tryz.mixed (by kernel_rfl) rfl ?_
 refine Mx.r 5 rfl ?_
 refine Mx.q rfl (Qt.lv 0 A33 rfl rfl rfl) rfl ?_
 refine Mx.r 4 rfl ?_
 refine Mx.q rfl (Qt.lv 0 A29 rfl rfl rfl) rfl ?_
 refine Mx.r 2 rfl ?_
 refine Mx.q rfl (Qt.lv 1 A3 rfl rfl rfl) rfl ?_
 refine Mx.r 3 rfl ?_
 refine Mx.q rfl (Qt.lv 0 A29 rfl rfl rfl) rfl ?_
 refine Mx.r 2 rfl ?_
 refine Mx.q rfl (Qt.lv 1 A3 rfl rfl rfl) rfl ?_
 refine Mx.r 4 rfl ?_
 refine Mx.p rfl (Pu.build [(0, .int .i64 1), (1, .int .i64 0), (2, .int .i64 0), (3, .int .i64 1), (4, .int .i64 0), (5, .int .i64 2), (6, .int .i64 8)] [.int .i64 1, .int .i64 0, .int .i64 0, .int .i64 1, .int .i64 0, .int .i64 2, .int .i64 8] #[(0, 1), (1, 1), (2, 1), (3, 1), (4, 1), (5, 1), (6, 1)] U51 Y51 (places51 N51) rfl (by kernel_rfl)) rfl ?_
 refine Mx.l rfl (Lo.bm id [[.int .i64 1, .int .i64 0, .int .i64 0, .int .i64 1, .int .i64 0, .int .i64 2, .int .i64 8]] U33 Z51 Y51 rfl rfl rfl (by kernel_rfl) rfl rfl) rfl ?_
 rintro V269 _ rfl
 refine MxK.gp [1, 2] [0, 1] rfl rfl ?_
 refine Mx.nr 51 7 (([] : List (List Value)).map id) rfl rfl rfl ?_
 refine Mx.l rfl (Lo.am 0 N33 info51 rfl rfl rfl rfl rfl (Src.row 1 rfl) (id_one rfl) (Nat.le_of_ble_eq_true rfl) (Nat.le_of_ble_eq_true rfl)) rfl ?_
 rintro V270 _ rfl
 refine MxK.gp [2, 3] [0, 1] rfl rfl ?_
 refine Mx.r 3 rfl ?_
 refine Mx.one rfl (fun _ h => by cases h <;> rfl) (Src.row 0 rfl) (fun hV271 => ?_)
 refine Mx.l0 rfl (Lo.so 2 Z33 hV271 rfl rfl rfl rfl) ?_
 rintro _ _ rfl
 refine MxK.al [2, 3] rfl (by kernel_rfl) ?_
 refine Mx.nil ?_
 exact J.dn [] [2, 3, 0] rfl trivial rfl ⟨V270, rfl, rfl⟩

end Go.Proofs.YtohjlkjhpibkmaaGreatDoor
