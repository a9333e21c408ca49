/-
  Several texts in one: SI3, SI4.
-/
import Derived.KernelRfl
import Derived.Test.YtnhfgnnpbipcnaaGreatDoorSID
namespace Go.Proofs.YtnhfgnnpbipcnaaGreatDoor
open Go Go.LK
set_option linter.unusedSimpArgs false

set_option maxRecDepth 100000 in
set_option maxHeartbeats 1000000 in
theorem si_Usual (n : Nat) (h1 : 1 ≤ n) (h8 : n ≤ 8) : Tri Tryz.prog 9 #[.int .i64 (n : Int)] [] [] (fun v L' => ∃ (V : Value) (l : List Sg), v = .tuple #[.agg #[.int .i64 2, .int .i64 4, .int .i64 1000, .int .u64 1, V], .int .i64 0] ∧ Si.dat l = Si.usK n n ∧ L' = [row V 47 14 (l.map Sg.cells), bun (l.map (Sg.row 50))]) := by
 refine Tri.en F9 rfl K9 rfl fun w0 => ?_
 refine J.co 2 rfl ?_
 refine O.l (Lo.al Y25 rfl) rfl ?_
 rintro _ _ ⟨g1, rfl, rfl⟩
 refine O.oo 8 rfl ?_
 refine O.kf 9 rfl (decide_eq_false (by omega)) ?_
 refine O.oc 4 rfl ?_
 refine J.condF rfl (decide_eq_false (by omega)) ?_
 refine J.co 3 rfl ?_
 refine O.p (Pu.build [(0, .int .i64 2), (1, .int .i64 4), (2, .int .i64 1000), (3, .int .u64 1)] [.int .i64 2, .int .i64 4, .int .i64 1000, .int .u64 1, Value.slice none 0 0] #[(0, 1), (1, 1), (2, 1), (3, 1), (4, 1)] U25 Y25 (places25 N25) rfl (by kernel_rfl)) rfl ?_
 refine O.l (Lo.al Y25 rfl) rfl ?_
 rintro _ _ ⟨g2, rfl, rfl⟩
 refine O.l0 (Lo.st 0 Z25 rfl rfl rfl rfl rfl rfl rfl) ?_
 rintro _ _ rfl
 refine O.oc 3 rfl ?_
 refine J.re Re.new ?_
 refine J.cc 5 rfl ?_
 refine J.nilRow 47 14 ?_
 refine J.lo (X := Nat × Value × List Sg) (fun (k, V, l) => k ≤ n ∧ Si.dat l = Si.usK n k ∧ l.length = k) (fun (k, V, l) => [(16, .int .i64 (k : Int))]) (fun (k, V, l) => [bun (l.map (Sg.row 50)), var g2 [.int .i64 2, .int .i64 4, .int .i64 1000, .int .u64 1, V] 25, row V 47 14 (l.map Sg.cells)]) (fun (k, V, l) => n - k) ⟨0, Value.slice none 0 0, ([] : List Sg)⟩ [0, 2, 3, 4, 15] [1, 2, 0] [3] ⟨by omega, rfl, rfl⟩ ⟨(eqi (by omega)), trivial⟩ rfl rfl ?_
 rintro ⟨k, V, l⟩ ⟨hk, hd, hlk⟩
 refine J.cc 5 rfl ?_
 refine J.cd rfl (fun p3 => ?_) (fun p3 => ?_)
 ·
  refine J.co 11 rfl ?_
  refine O.q (Qt.lv 1 A3 rfl rfl rfl) rfl ?_
  refine O.oo 1 rfl ?_
  refine O.q (Qt.lv 1 A3 rfl rfl rfl) rfl ?_
  refine O.p (Pu.mul' rfl rfl (by omega)) rfl ?_
  refine O.l (Lo.ca C21 (kn_Usual (2 * 4)) [] rfl rfl .nil) rfl ?_
  rintro _ _ ⟨_, ⟨rfl, rfl⟩, rfl⟩
  refine O.p (Pu.build [(0, .int .i64 1), (1, .int .i64 4), (2, .int .i64 10), (3, .int .i64 1), (4, .int .i64 64), (5, .int .i64 20), (6, .agg #[.int .i64 1, .int .i64 4, .int .i64 10, .int .i64 5, .int .i64 1, .int .i64 3, .int .i64 2])] [.int .i64 1, .int .i64 4, .int .i64 10, .int .i64 1, .int .i64 64, .int .i64 20, .int .i64 1, .int .i64 4, .int .i64 10, .int .i64 5, .int .i64 1, .int .i64 3, .int .i64 2, Value.slice none 0 0] #[(0, 1), (1, 1), (2, 1), (3, 1), (4, 1), (5, 1), (6, 7), (13, 1)] U47 Y47 (places47 N47) rfl (by kernel_rfl)) rfl ?_
  refine O.l (Lo.al Y47 rfl) rfl ?_
  rintro _ _ ⟨g5, rfl, rfl⟩
  refine O.l0 (Lo.st 0 Z47 rfl rfl rfl rfl rfl rfl rfl) ?_
  rintro _ _ rfl
  refine O.oo 6 rfl ?_
  refine O.p (Pu.sub' rfl rfl (by omega)) rfl ?_
  refine O.oc 2 rfl ?_
  refine J.cd rfl (fun p6 => ?_) (fun p6 => ?_)
  ·
   refine J.co 2 rfl ?_
   refine O.p (Pu.add' rfl rfl (by omega)) rfl ?_
   refine O.p (Pu.build [(0, .int .i64 ((k : Int) + 1)), (2, .int .i64 6), (3, .int .i64 20)] [.int .i64 ((k : Int) + 1), .int .i64 0, .int .i64 6, .int .i64 20] #[(0, 1), (1, 1), (2, 1), (3, 1)] U50 Y50 (places50 N50) rfl (by kernel_rfl)) rfl ?_
   refine O.l (Lo.bm Cl.cells [(⟨(k : Int) + 1, 0, 6, 20⟩ : Cl)] U45 Z50 Y50 rfl rfl rfl (by kernel_rfl) rfl rfl) rfl ?_
   rintro V7 _ rfl
   refine O.oo 1 rfl ?_
   refine O.one (Src.row 0 rfl) (fun hV8 => ?_)
   refine O.l0 (Lo.so 1 Z45 hV8 rfl rfl rfl rfl) ?_
   rintro _ _ rfl
   refine O.nil ?_
   refine J.one (Src.row 0 rfl) (fun hV => ?_)
   refine J.co 2 rfl ?_
   refine O.q (Qt.lv 3 A23 rfl rfl rfl) rfl ?_
   refine O.q (Qt.lva 1 A47 Z47 rfl rfl rfl) rfl ?_
   refine O.l (Lo.bm Sg.cells [(⟨1, 4, 10, 1, 64, 20, 1, 4, 10, 5, 1, 3, 2, V7, [(⟨(k : Int) + 1, 0, 6, 20⟩ : Cl)], hV⟩ : Sg)] U23 Z47 Y47 rfl rfl rfl (by cases V7 <;> first | (simp [Value.oneCell'] at hV; done) | kernel_rfl) rfl rfl) rfl ?_
   rintro V9 _ rfl
   refine O.l (Lo.am 5 N23 info47 rfl rfl rfl rfl rfl (Src.row 0 rfl) Sg.one (by first | omega | (simp only [List.length_append, List.length_cons, List.length_nil]; omega)) (by first | omega | (simp only [List.length_append, List.length_cons, List.length_nil]; omega))) rfl ?_
   rintro V10 _ rfl
   refine O.oo 1 rfl ?_
   refine O.one (Src.row 5 rfl) (fun hV11 => ?_)
   refine O.l0 (Lo.so 4 Z23 hV11 rfl rfl rfl rfl) ?_
   rintro _ _ rfl
   refine O.oc 2 rfl ?_
   refine J.re (L' := [bun ((l ++ ([(⟨1, 4, 10, 1, 64, 20, 1, 4, 10, 5, 1, 3, 2, V7, [(⟨(k : Int) + 1, 0, 6, 20⟩ : Cl)], hV⟩ : Sg)])).map (Sg.row 50)), row V9 47 14 (([(⟨1, 4, 10, 1, 64, 20, 1, 4, 10, 5, 1, 3, 2, V7, [(⟨(k : Int) + 1, 0, 6, 20⟩ : Cl)], hV⟩ : Sg)]).map Sg.cells), var g5 [.int .i64 1, .int .i64 4, .int .i64 10, .int .i64 1, .int .i64 64, .int .i64 20, .int .i64 1, .int .i64 4, .int .i64 10, .int .i64 5, .int .i64 1, .int .i64 3, .int .i64 2, V7] 47, var g2 [.int .i64 2, .int .i64 4, .int .i64 1000, .int .u64 1, V10] 25, row V10 47 14 ((l ++ ([(⟨1, 4, 10, 1, 64, 20, 1, 4, 10, 5, 1, 3, 2, V7, [(⟨(k : Int) + 1, 0, 6, 20⟩ : Cl)], hV⟩ : Sg)])).map Sg.cells), var g1 [.int .i64 0, .int .i64 0, .int .i64 0, .int .u64 0, Value.slice none 0 0] 25]) (Re.trans (Re.sn [1, 3, 0, 2, 4, 5, 6] rfl) (Si.sg_into rfl rfl)) ?_
   refine J.region ?_
   refine O.p (Pu.add' rfl rfl (by omega)) rfl ?_
   refine O.oc 2 rfl ?_
   exact J.lq ⟨k + 1, V10, l ++ ([(⟨1, 4, 10, 1, 64, 20, 1, 4, 10, 5, 1, 3, 2, V7, [(⟨(k : Int) + 1, 0, 6, 20⟩ : Cl)], hV⟩ : Sg)])⟩ [0, 2, 3, 4, 15] [0, 3, 4] [5] ⟨by omega, Si.us_next hd (Si.usd_yes (by omega)).symm, (by simp only [List.length_append, List.length_cons, List.length_nil]; omega)⟩ (by dsimp only; omega) ⟨(eqi (by omega)), trivial⟩ rfl rfl
  ·
   refine J.skip ?_
   refine J.nr 50 4 (([] : List Cl).map Cl.cells) rfl ?_
   refine J.co 2 rfl ?_
   refine O.q (Qt.lv 3 A23 rfl rfl rfl) rfl ?_
   refine O.q (Qt.lva 1 A47 Z47 rfl rfl rfl) rfl ?_
   refine O.l (Lo.bm Sg.cells [(⟨1, 4, 10, 1, 64, 20, 1, 4, 10, 5, 1, 3, 2, Value.slice none 0 0, ([] : List Cl), rfl⟩ : Sg)] U23 Z47 Y47 rfl rfl rfl (by kernel_rfl) rfl rfl) rfl ?_
   rintro V12 _ rfl
   refine O.l (Lo.am 5 N23 info47 rfl rfl rfl rfl rfl (Src.row 0 rfl) Sg.one (by first | omega | (simp only [List.length_append, List.length_cons, List.length_nil]; omega)) (by first | omega | (simp only [List.length_append, List.length_cons, List.length_nil]; omega))) rfl ?_
   rintro V13 _ rfl
   refine O.oo 1 rfl ?_
   refine O.one (Src.row 5 rfl) (fun hV14 => ?_)
   refine O.l0 (Lo.so 4 Z23 hV14 rfl rfl rfl rfl) ?_
   rintro _ _ rfl
   refine O.oc 2 rfl ?_
   refine J.re (L' := [bun ((l ++ ([(⟨1, 4, 10, 1, 64, 20, 1, 4, 10, 5, 1, 3, 2, Value.slice none 0 0, ([] : List Cl), rfl⟩ : Sg)])).map (Sg.row 50)), row V12 47 14 (([(⟨1, 4, 10, 1, 64, 20, 1, 4, 10, 5, 1, 3, 2, Value.slice none 0 0, ([] : List Cl), rfl⟩ : Sg)]).map Sg.cells), var g5 [.int .i64 1, .int .i64 4, .int .i64 10, .int .i64 1, .int .i64 64, .int .i64 20, .int .i64 1, .int .i64 4, .int .i64 10, .int .i64 5, .int .i64 1, .int .i64 3, .int .i64 2, Value.slice none 0 0] 47, var g2 [.int .i64 2, .int .i64 4, .int .i64 1000, .int .u64 1, V13] 25, row V13 47 14 ((l ++ ([(⟨1, 4, 10, 1, 64, 20, 1, 4, 10, 5, 1, 3, 2, Value.slice none 0 0, ([] : List Cl), rfl⟩ : Sg)])).map Sg.cells), var g1 [.int .i64 0, .int .i64 0, .int .i64 0, .int .u64 0, Value.slice none 0 0] 25]) (Re.trans (Re.sn [1, 3, 0, 2, 4, 5, 6] rfl) (Si.sg_into rfl rfl)) ?_
   refine J.region ?_
   refine O.p (Pu.add' rfl rfl (by omega)) rfl ?_
   refine O.oc 2 rfl ?_
   exact J.lq ⟨k + 1, V13, l ++ ([(⟨1, 4, 10, 1, 64, 20, 1, 4, 10, 5, 1, 3, 2, Value.slice none 0 0, ([] : List Cl), rfl⟩ : Sg)])⟩ [0, 2, 3, 4, 15] [0, 3, 4] [5] ⟨by omega, Si.us_next hd (Si.usd_no (by omega)).symm, (by simp only [List.length_append, List.length_cons, List.length_nil]; omega)⟩ (by dsimp only; omega) ⟨(eqi (by omega)), trivial⟩ rfl rfl
 ·
  refine J.co 3 rfl ?_
  refine O.q (Qt.lva 1 A25 Z25 rfl rfl rfl) rfl ?_
  refine O.one (Src.row 2 rfl) (fun hV15 => ?_)
  refine O.l0 (Lo.st 3 Z25 rfl rfl rfl rfl rfl (by simp only [List.all_cons, List.all_nil, Bool.and_true, hV15] <;> rfl) rfl) ?_
  rintro _ _ rfl
  refine O.oc 2 rfl ?_
  exact J.rn [_, _] [2, 0] rfl ⟨⟨_, _, 0, 0, _, rfl, (Cel.var 3 rfl), rfl, (Cut.agg [.int .i64 2, .int .i64 4, .int .i64 1000, .int .u64 1, V] A25 Z25 rfl rfl)⟩, rfl, trivial⟩ rfl ⟨V, l, rfl, (by rw [hd, show k = n from by omega]), rfl⟩

set_option maxRecDepth 100000 in
theorem si_UsualNo (n : Int) (hn : n < 1 ∨ 8 < n) : Tri Tryz.prog 9 #[.int .i64 n] [] [] (fun v L' => v = .tuple #[.agg #[.int .i64 0, .int .i64 0, .int .i64 0, .int .u64 0, .slice none 0 0], .int .i64 1] ∧ L' = []) := by
  refine Tri.en F9 rfl K9 rfl fun w0 => ?_
  refine J.co 2 rfl ?_
  refine O.l (Lo.al Y25 rfl) rfl ?_
  rintro _ _ ⟨g1, rfl, rfl⟩
  refine O.oo 8 rfl ?_
  refine O.sd 9 rfl (fun p2 => ?_) (fun p2 => ?_)
  ·
    refine O.oo 7 rfl ?_
    refine O.p (Pu.build [] [.int .i64 0, .int .i64 0, .int .i64 0, .int .u64 0, Value.slice none 0 0] #[(0, 1), (1, 1), (2, 1), (3, 1), (4, 1)] U25 Y25 (places25 N25) rfl (by kernel_rfl)) rfl ?_
    refine O.l0 (Lo.st 0 Z25 rfl rfl rfl rfl rfl rfl rfl) ?_
    rintro _ _ rfl
    refine O.oc 2 rfl ?_
    exact J.rn [_, _] [] rfl ⟨⟨_, _, 0, 0, _, rfl, (Cel.var 0 rfl), rfl, (Cut.agg [.int .i64 0, .int .i64 0, .int .i64 0, .int .u64 0, Value.slice none 0 0] A25 Z25 rfl rfl)⟩, rfl, trivial⟩ rfl ⟨rfl, rfl⟩
  ·
    refine O.oc 4 rfl ?_
    refine J.cd rfl (fun p3 => ?_) (fun p3 => ?_)
    ·
      refine J.co 2 rfl ?_
      refine O.p (Pu.build [] [.int .i64 0, .int .i64 0, .int .i64 0, .int .u64 0, Value.slice none 0 0] #[(0, 1), (1, 1), (2, 1), (3, 1), (4, 1)] U25 Y25 (places25 N25) rfl (by kernel_rfl)) rfl ?_
      refine O.l0 (Lo.st 0 Z25 rfl rfl rfl rfl rfl rfl rfl) ?_
      rintro _ _ rfl
      refine O.oc 2 rfl ?_
      exact J.rn [_, _] [] rfl ⟨⟨_, _, 0, 0, _, rfl, (Cel.var 0 rfl), rfl, (Cut.agg [.int .i64 0, .int .i64 0, .int .i64 0, .int .u64 0, Value.slice none 0 0] A25 Z25 rfl rfl)⟩, rfl, trivial⟩ rfl ⟨rfl, rfl⟩
    ·
      exfalso; omega

theorem r18_Of_us (lv : Value) : Tri Tryz.prog 23 #[lv] [rd lv 1 (([1, 4, 10, 5, 1, 3, 2] : List Int).map encZ)] [] (fun v L' => v = .agg #[.int .i64 1, .int .i64 4, .int .i64 10, .int .i64 5, .int .i64 1, .int .i64 3, .int .i64 2] ∧ L' = []) := r18_Of lv [1, 4, 10, 5, 1, 3, 2] rfl

set_option maxRecDepth 100000 in
set_option maxHeartbeats 1000000 in
theorem r30_Usual (n : Nat) (h8 : n ≤ 8) : Tri Tryz.prog 11 #[.int .i64 (n : Int)] [] [] (fun v L' => ∃ (V : Value) (l : List Sg), v = .agg #[.int .i64 2, .int .i64 4, .int .i64 1000, .int .u64 1, V] ∧ Si.dat l = Si.usK n n ∧ L' = [row V 47 14 (l.map Sg.cells), bun (l.map (Sg.row 50))]) := by
  refine Tri.en F11 rfl K11 rfl fun w0 => ?_
  refine J.co 2 rfl ?_
  refine O.l (Lo.al Y25 rfl) rfl ?_
  rintro _ _ ⟨g1, rfl, rfl⟩
  refine O.oo 3 rfl ?_
  refine O.p (Pu.build [(0, .int .i64 2), (1, .int .i64 4), (2, .int .i64 1000), (3, .int .u64 1)] [.int .i64 2, .int .i64 4, .int .i64 1000, .int .u64 1, Value.slice none 0 0] #[(0, 1), (1, 1), (2, 1), (3, 1), (4, 1)] U25 Y25 (places25 N25) rfl (by kernel_rfl)) rfl ?_
  refine O.l (Lo.al Y25 rfl) rfl ?_
  rintro _ _ ⟨g2, rfl, rfl⟩
  refine O.l0 (Lo.st 0 Z25 rfl rfl rfl rfl rfl rfl rfl) ?_
  rintro _ _ rfl
  refine O.oc 3 rfl ?_
  refine J.re Re.new ?_
  refine J.cc 4 rfl ?_
  refine J.nilRow 47 14 ?_
  refine J.lo (X := Nat × Value × List Sg) (fun (k, V, l) => k ≤ n ∧ Si.dat l = Si.usK n k ∧ l.length = k) (fun (k, V, l) => [(4, .int .i64 (k : Int))]) (fun (k, V, l) => [bun (l.map (Sg.row 50)), var g2 [.int .i64 2, .int .i64 4, .int .i64 1000, .int .u64 1, V] 25, row V 47 14 (l.map Sg.cells)]) (fun (k, V, l) => n - k) ⟨0, Value.slice none 0 0, ([] : List Sg)⟩ [0, 2, 3] [1, 2, 0] [3] ⟨by omega, rfl, rfl⟩ ⟨(eqi (by omega)), trivial⟩ rfl rfl ?_
  rintro ⟨k, V, l⟩ ⟨hk, hd, hlk⟩
  refine J.cc 7 rfl ?_
  refine J.cd rfl (fun p3 => ?_) (fun p3 => ?_)
  ·
    refine J.co 5 rfl ?_
    refine O.l (Lo.bm encZ [1, 4, 10, 5, 1, 3, 2] U53 Z3 Y3 rfl rfl rfl (by kernel_rfl) rfl rfl) rfl ?_
    rintro V4 _ rfl
    refine O.l (Lo.ca C23 (r18_Of_us V4) [] rfl rfl (.of 0 row_rd rfl rfl .nil)) rfl ?_
    rintro _ _ ⟨_, ⟨rfl, rfl⟩, rfl⟩
    refine O.p (Pu.build [(0, .int .i64 1), (1, .int .i64 4), (2, .int .i64 10), (3, .int .i64 1), (4, .int .i64 64), (5, .int .i64 20), (6, .agg #[.int .i64 1, .int .i64 4, .int .i64 10, .int .i64 5, .int .i64 1, .int .i64 3, .int .i64 2])] [.int .i64 1, .int .i64 4, .int .i64 10, .int .i64 1, .int .i64 64, .int .i64 20, .int .i64 1, .int .i64 4, .int .i64 10, .int .i64 5, .int .i64 1, .int .i64 3, .int .i64 2, Value.slice none 0 0] #[(0, 1), (1, 1), (2, 1), (3, 1), (4, 1), (5, 1), (6, 7), (13, 1)] U47 Y47 (places47 N47) rfl (by kernel_rfl)) rfl ?_
    refine O.l (Lo.al Y47 rfl) rfl ?_
    rintro _ _ ⟨g6, rfl, rfl⟩
    refine O.l0 (Lo.st 0 Z47 rfl rfl rfl rfl rfl rfl rfl) ?_
    rintro _ _ rfl
    refine O.oo 6 rfl ?_
    refine O.p (Pu.sub' rfl rfl (by omega)) rfl ?_
    refine O.oc 2 rfl ?_
    refine J.cd rfl (fun p7 => ?_) (fun p7 => ?_)
    ·
      refine J.co 2 rfl ?_
      refine O.q (Qt.lv 0 A45 rfl rfl rfl) rfl ?_
      refine O.oo 1 rfl ?_
      refine O.p (Pu.add' rfl rfl (by omega)) rfl ?_
      refine O.p (Pu.build [(0, .int .i64 ((k : Int) + 1)), (2, .int .i64 6), (3, .int .i64 20)] [.int .i64 ((k : Int) + 1), .int .i64 0, .int .i64 6, .int .i64 20] #[(0, 1), (1, 1), (2, 1), (3, 1)] U50 Y50 (places50 N50) rfl (by kernel_rfl)) rfl ?_
      refine O.l (Lo.bm Cl.cells [(⟨(k : Int) + 1, 0, 6, 20⟩ : Cl)] U45 Z50 Y50 rfl rfl rfl (by kernel_rfl) rfl rfl) rfl ?_
      rintro V8 _ rfl
      refine O.nr 50 4 (([] : List Cl).map Cl.cells) rfl ?_
      refine O.l (Lo.am 0 N45 info50 rfl rfl rfl rfl rfl (Src.row 1 rfl) Cl.one (by first | omega | (simp only [List.length_append, List.length_cons, List.length_nil]; omega)) (by first | omega | (simp only [List.length_append, List.length_cons, List.length_nil]; omega))) rfl ?_
      rintro V9 _ rfl
      refine O.oo 1 rfl ?_
      refine O.one (Src.row 0 rfl) (fun hV10 => ?_)
      refine O.l0 (Lo.so 2 Z45 hV10 rfl rfl rfl rfl) ?_
      rintro _ _ rfl
      refine O.nil ?_
      refine J.one (Src.row 0 rfl) (fun hV => ?_)
      refine J.co 2 rfl ?_
      refine O.q (Qt.lv 5 A23 rfl rfl rfl) rfl ?_
      refine O.q (Qt.lva 2 A47 Z47 rfl rfl rfl) rfl ?_
      refine O.l (Lo.bm Sg.cells [(⟨1, 4, 10, 1, 64, 20, 1, 4, 10, 5, 1, 3, 2, V9, ([] : List Cl) ++ ([(⟨(k : Int) + 1, 0, 6, 20⟩ : Cl)]), hV⟩ : Sg)] U23 Z47 Y47 rfl rfl rfl (by cases V9 <;> first | (simp [Value.oneCell'] at hV; done) | kernel_rfl) rfl rfl) rfl ?_
      rintro V11 _ rfl
      refine O.l (Lo.am 7 N23 info47 rfl rfl rfl rfl rfl (Src.row 0 rfl) Sg.one (by first | omega | (simp only [List.length_append, List.length_cons, List.length_nil]; omega)) (by first | omega | (simp only [List.length_append, List.length_cons, List.length_nil]; omega))) rfl ?_
      rintro V12 _ rfl
      refine O.oo 1 rfl ?_
      refine O.one (Src.row 7 rfl) (fun hV13 => ?_)
      refine O.l0 (Lo.so 6 Z23 hV13 rfl rfl rfl rfl) ?_
      rintro _ _ rfl
      refine O.oc 2 rfl ?_
      refine J.re (L' := [bun ((l ++ ([(⟨1, 4, 10, 1, 64, 20, 1, 4, 10, 5, 1, 3, 2, V9, ([] : List Cl) ++ ([(⟨(k : Int) + 1, 0, 6, 20⟩ : Cl)]), hV⟩ : Sg)])).map (Sg.row 50)), row V11 47 14 (([(⟨1, 4, 10, 1, 64, 20, 1, 4, 10, 5, 1, 3, 2, V9, ([] : List Cl) ++ ([(⟨(k : Int) + 1, 0, 6, 20⟩ : Cl)]), hV⟩ : Sg)]).map Sg.cells), row V8 50 4 (([(⟨(k : Int) + 1, 0, 6, 20⟩ : Cl)]).map Cl.cells), var g6 [.int .i64 1, .int .i64 4, .int .i64 10, .int .i64 1, .int .i64 64, .int .i64 20, .int .i64 1, .int .i64 4, .int .i64 10, .int .i64 5, .int .i64 1, .int .i64 3, .int .i64 2, V9] 47, row V4 3 1 (([1, 4, 10, 5, 1, 3, 2]).map encZ), var g2 [.int .i64 2, .int .i64 4, .int .i64 1000, .int .u64 1, V12] 25, row V12 47 14 ((l ++ ([(⟨1, 4, 10, 1, 64, 20, 1, 4, 10, 5, 1, 3, 2, V9, ([] : List Cl) ++ ([(⟨(k : Int) + 1, 0, 6, 20⟩ : Cl)]), hV⟩ : Sg)])).map Sg.cells), var g1 [.int .i64 0, .int .i64 0, .int .i64 0, .int .u64 0, Value.slice none 0 0] 25]) (Re.trans (Re.sn [1, 5, 0, 2, 3, 4, 6, 7, 8] rfl) (Si.sg_into rfl rfl)) ?_
      refine J.co 2 rfl ?_
      refine O.p (Pu.add' rfl rfl (by omega)) rfl ?_
      refine O.oc 2 rfl ?_
      exact J.lq ⟨k + 1, V12, l ++ ([(⟨1, 4, 10, 1, 64, 20, 1, 4, 10, 5, 1, 3, 2, V9, ([] : List Cl) ++ ([(⟨(k : Int) + 1, 0, 6, 20⟩ : Cl)]), hV⟩ : Sg)])⟩ [0, 2, 3] [0, 5, 6] [7] ⟨by omega, Si.us_next hd (Si.usd_yes (by omega)).symm, (by simp only [List.length_append, List.length_cons, List.length_nil]; omega)⟩ (by dsimp only; omega) ⟨(eqi (by omega)), trivial⟩ rfl rfl
    ·
      refine J.skip ?_
      refine J.nr 50 4 (([] : List Cl).map Cl.cells) rfl ?_
      refine J.co 2 rfl ?_
      refine O.q (Qt.lv 4 A23 rfl rfl rfl) rfl ?_
      refine O.q (Qt.lva 1 A47 Z47 rfl rfl rfl) rfl ?_
      refine O.l (Lo.bm Sg.cells [(⟨1, 4, 10, 1, 64, 20, 1, 4, 10, 5, 1, 3, 2, Value.slice none 0 0, ([] : List Cl), rfl⟩ : Sg)] U23 Z47 Y47 rfl rfl rfl (by kernel_rfl) rfl rfl) rfl ?_
      rintro V14 _ rfl
      refine O.l (Lo.am 6 N23 info47 rfl rfl rfl rfl rfl (Src.row 0 rfl) Sg.one (by first | omega | (simp only [List.length_append, List.length_cons, List.length_nil]; omega)) (by first | omega | (simp only [List.length_append, List.length_cons, List.length_nil]; omega))) rfl ?_
      rintro V15 _ rfl
      refine O.oo 1 rfl ?_
      refine O.one (Src.row 6 rfl) (fun hV16 => ?_)
      refine O.l0 (Lo.so 5 Z23 hV16 rfl rfl rfl rfl) ?_
      rintro _ _ rfl
      refine O.oc 2 rfl ?_
      refine J.re (L' := [bun ((l ++ ([(⟨1, 4, 10, 1, 64, 20, 1, 4, 10, 5, 1, 3, 2, Value.slice none 0 0, ([] : List Cl), rfl⟩ : Sg)])).map (Sg.row 50)), row V14 47 14 (([(⟨1, 4, 10, 1, 64, 20, 1, 4, 10, 5, 1, 3, 2, Value.slice none 0 0, ([] : List Cl), rfl⟩ : Sg)]).map Sg.cells), var g6 [.int .i64 1, .int .i64 4, .int .i64 10, .int .i64 1, .int .i64 64, .int .i64 20, .int .i64 1, .int .i64 4, .int .i64 10, .int .i64 5, .int .i64 1, .int .i64 3, .int .i64 2, Value.slice none 0 0] 47, row V4 3 1 (([1, 4, 10, 5, 1, 3, 2]).map encZ), var g2 [.int .i64 2, .int .i64 4, .int .i64 1000, .int .u64 1, V15] 25, row V15 47 14 ((l ++ ([(⟨1, 4, 10, 1, 64, 20, 1, 4, 10, 5, 1, 3, 2, Value.slice none 0 0, ([] : List Cl), rfl⟩ : Sg)])).map Sg.cells), var g1 [.int .i64 0, .int .i64 0, .int .i64 0, .int .u64 0, Value.slice none 0 0] 25]) (Re.trans (Re.sn [1, 4, 0, 2, 3, 5, 6, 7] rfl) (Si.sg_into rfl rfl)) ?_
      refine J.co 2 rfl ?_
      refine O.p (Pu.add' rfl rfl (by omega)) rfl ?_
      refine O.oc 2 rfl ?_
      exact J.lq ⟨k + 1, V15, l ++ ([(⟨1, 4, 10, 1, 64, 20, 1, 4, 10, 5, 1, 3, 2, Value.slice none 0 0, ([] : List Cl), rfl⟩ : Sg)])⟩ [0, 2, 3] [0, 4, 5] [6] ⟨by omega, Si.us_next hd (Si.usd_no (by omega)).symm, (by simp only [List.length_append, List.length_cons, List.length_nil]; omega)⟩ (by dsimp only; omega) ⟨(eqi (by omega)), trivial⟩ rfl rfl
  ·
    refine J.co 3 rfl ?_
    refine O.q (Qt.lva 1 A25 Z25 rfl rfl rfl) rfl ?_
    refine O.one (Src.row 2 rfl) (fun hV17 => ?_)
    refine O.l0 (Lo.st 3 Z25 rfl rfl rfl rfl rfl (by simp only [List.all_cons, List.all_nil, Bool.and_true, hV17] <;> rfl) rfl) ?_
    rintro _ _ rfl
    refine O.nil ?_
    exact J.rn [_] [2, 0] rfl ⟨⟨_, _, 0, 0, _, rfl, (Cel.var 3 rfl), rfl, (Cut.agg [.int .i64 2, .int .i64 4, .int .i64 1000, .int .u64 1, V] A25 Z25 rfl rfl)⟩, trivial⟩ rfl ⟨V, l, rfl, (by rw [hd, show k = n from by omega]), rfl⟩

end Go.Proofs.YtnhfgnnpbipcnaaGreatDoor

namespace Go.Proofs.YtnhfgnnpbipcnaaGreatDoor
open Go Go.LK
set_option linter.unusedSimpArgs false

set_option maxRecDepth 100000 in
theorem sl_EqualFunc (sv : Value) (l : List Sg) (sv2 : Value) (l2 : List Sg) (hl : l.length ≤ 30000) (hc : ∀ s ∈ l, s.cl.length ≤ 30000) (hl2 : l2.length ≤ 30000) (hc2 : ∀ s ∈ l2, s.cl.length ≤ 30000) : Tri Tryz.prog 45 #[sv, sv2, .func (.func 46) #[] #[]] [rd sv 14 (l.map Sg.cells), ros (l.map Sg.rd), rd sv2 14 (l2.map Sg.cells), ros (l2.map Sg.rd)] [] (fun v L' => v = .bool (decide (l.length = l2.length) && Si.sameN l l2 l.length) ∧ L' = []) := by
  refine Tri.en F45 rfl K45 rfl fun w0 => ?_
  refine J.co 8 rfl ?_
  refine O.q (Qt.lenM U23 rfl (Src.ro 0 rfl)) rfl ?_
  refine O.oo 1 rfl ?_
  refine O.q (Qt.lenM U23 rfl (Src.ro 2 rfl)) rfl ?_
  refine O.oc 2 rfl ?_
  refine J.cd rfl (fun p1 => ?_) (fun p1 => ?_)
  ·
    refine J.cc 4 rfl ?_
    exact J.r0 rfl rfl ⟨(by rw [decide_eq_false (by omega)]; rfl), rfl⟩
  ·
    refine J.co 5 rfl ?_
    refine O.q (Qt.lenM U23 rfl (Src.ro 0 rfl)) rfl ?_
    refine O.oc 3 rfl ?_
    refine J.lo (X := Nat) (fun k => k ≤ l.length ∧ l.length = l2.length ∧ Si.sameN l l2 k = true) (fun k => [(17, .int .i64 (k : Int))]) (fun k => []) (fun k => l.length - k) 0 [1, 2, 15, 16] [] [] ⟨by omega, by omega, Si.sameN_zero⟩ ⟨(eqi (by omega)), trivial⟩ rfl rfl ?_
    rintro k ⟨hk, hle, hN⟩
    refine J.cc 5 rfl ?_
    refine J.cd rfl (fun p2 => ?_) (fun p2 => ?_)
    ·
      refine J.cc 4 rfl ?_
      obtain ⟨e3, he3⟩ := ex_at (l := l) (i := k) (by omega)
      refine J.ros 1 rfl (A := rd e3.cv 4 (e3.cl.map Cl.cells)) (List.mem_map.2 ⟨e3, List.mem_of_getElem? he3, rfl⟩) ?_
      have hhc_ := hc _ (List.mem_of_getElem? he3)
      obtain ⟨e4, he4⟩ := ex_at (l := l2) (i := k) (by omega)
      refine J.ros 3 rfl (A := rd e4.cv 4 (e4.cl.map Cl.cells)) (List.mem_map.2 ⟨e4, List.mem_of_getElem? he4, rfl⟩) ?_
      have hhc2_ := hc2 _ (List.mem_of_getElem? he4)
      refine J.co 2 rfl ?_
      refine O.q (Qt.idxM U23 Z47 rfl (Src.ro 0 rfl) rfl (by omega) (by omega)) rfl ?_
      refine O.q (Qt.lea A47 Z47 (Src.ro 0 rfl) he3 0 rfl (by omega) rfl) rfl ?_
      refine O.l (Lo.al Y47 rfl) rfl ?_
      rintro _ _ ⟨g5, rfl, rfl⟩
      refine O.oo 1 rfl ?_
      refine O.one (Src.ro 4 rfl) (fun hV6 => ?_)
      refine O.l0 (Lo.st 0 Z47 rfl rfl rfl rfl rfl (by simp only [List.all_cons, List.all_nil, Bool.and_true, hV6] <;> rfl) rfl) ?_
      rintro _ _ rfl
      refine O.oo 5 rfl ?_
      refine O.q (Qt.idxM U23 Z47 rfl (Src.ro 2 rfl) rfl (by omega) (by omega)) rfl ?_
      refine O.q (Qt.lea A47 Z47 (Src.ro 2 rfl) he4 0 rfl (by omega) rfl) rfl ?_
      refine O.l (Lo.al Y47 rfl) rfl ?_
      rintro _ _ ⟨g7, rfl, rfl⟩
      refine O.one (Src.ro 5 rfl) (fun hV8 => ?_)
      refine O.l0 (Lo.st 0 Z47 rfl rfl rfl rfl rfl (by simp only [List.all_cons, List.all_nil, Bool.and_true, hV8] <;> rfl) rfl) ?_
      rintro _ _ rfl
      refine O.oo 4 rfl ?_
      refine O.q (Qt.lva 1 A47 Z47 rfl rfl rfl) rfl ?_
      refine O.q (Qt.lva 0 A47 Z47 rfl rfl rfl) rfl ?_
      refine O.l (Lo.cv C46 rfl rfl (cf_Same e3.x0 e3.x1 e3.x2 e3.x3 e3.x4 e3.x5 e3.x6 e3.x7 e3.x8 e3.x9 e3.x10 e3.x11 e3.x12 e4.x0 e4.x1 e4.x2 e4.x3 e4.x4 e4.x5 e4.x6 e4.x7 e4.x8 e4.x9 e4.x10 e4.x11 e4.x12 e3.cv e4.cv e3.cl e4.cl (by omega) (by omega)) [] rfl (.ro 4 rfl (.ro 5 rfl .nil))) rfl ?_
      rintro _ _ ⟨_, ⟨rfl, rfl⟩, rfl⟩
      refine O.oc 2 rfl ?_
      refine J.cond rfl (fun h10 => ?_) (fun h10 => ?_)
      ·
        have h11 : (Cf.sameI [e3.x0, e3.x1, e3.x2, e3.x3, e3.x4, e3.x5, e3.x6, e3.x7, e3.x8, e3.x9, e3.x10, e3.x11, e3.x12] [e4.x0, e4.x1, e4.x2, e4.x3, e4.x4, e4.x5, e4.x6, e4.x7, e4.x8, e4.x9, e4.x10, e4.x11, e4.x12] && Cf.sameC e3.cl e4.cl) = false := not_flip h10
        refine J.cc 4 rfl ?_
        exact J.r0 rfl rfl ⟨(by rw [Si.sameN_bad he3 he4 (show Si.sameS e3 e4 = false from (by assumption)), Bool.and_false]; rfl), rfl⟩
      ·
        have h12 : (Cf.sameI [e3.x0, e3.x1, e3.x2, e3.x3, e3.x4, e3.x5, e3.x6, e3.x7, e3.x8, e3.x9, e3.x10, e3.x11, e3.x12] [e4.x0, e4.x1, e4.x2, e4.x3, e4.x4, e4.x5, e4.x6, e4.x7, e4.x8, e4.x9, e4.x10, e4.x11, e4.x12] && Cf.sameC e3.cl e4.cl) = true := not_flip h10
        refine J.co 3 rfl ?_
        refine O.p (Pu.add' rfl rfl (by omega)) rfl ?_
        refine O.oc 2 rfl ?_
        exact J.lq (k + 1) [1, 2, 15, 16] [] [] ⟨by omega, hle, Si.sameN_next hN he3 he4 (show Si.sameS e3 e4 = true from (by assumption))⟩ (by omega) ⟨(eqi (by omega)), trivial⟩ rfl rfl
    ·
      refine J.cc 5 rfl ?_
      exact J.r0 rfl rfl ⟨(by rw [decide_eq_true hle, show l.length = k from by omega, hN]; rfl), rfl⟩

set_option maxRecDepth 100000 in
set_option maxHeartbeats 1000000 in
theorem si_Same (b c r : Int) (n : Nat) (sv : Value) (l : List Sg) (b2 c2 r2 : Int) (n2 : Nat) (sv2 : Value) (l2 : List Sg) (hl : l.length ≤ 30000) (hc : ∀ s ∈ l, s.cl.length ≤ 30000) (hl2 : l2.length ≤ 30000) (hc2 : ∀ s ∈ l2, s.cl.length ≤ 30000) : Tri Tryz.prog 18 #[.agg #[.int .i64 b, .int .i64 c, .int .i64 r, .int .u64 (Nat.cast n : Int), sv], .agg #[.int .i64 b2, .int .i64 c2, .int .i64 r2, .int .u64 (Nat.cast n2 : Int), sv2]] [rd sv 14 (l.map Sg.cells), ros (l.map Sg.rd), rd sv2 14 (l2.map Sg.cells), ros (l2.map Sg.rd)] [] (fun v L' => v = .bool (Si.same b c r n l b2 c2 r2 n2 l2) ∧ L' = []) := by
  refine Tri.en F18 rfl K18 rfl fun w0 => ?_
  refine J.co 2 rfl ?_
  refine O.one (Src.ro 0 rfl) (fun hV2 => ?_)
  refine O.l (Lo.bx rfl rfl) rfl ?_
  rintro _ _ ⟨g1, rfl, rfl⟩
  refine O.one (Src.ro 2 rfl) (fun hV4 => ?_)
  refine O.l (Lo.bx rfl rfl) rfl ?_
  rintro _ _ ⟨g3, rfl, rfl⟩
  refine O.oo 5 rfl ?_
  refine O.q (Qt.lv 1 A3 rfl rfl rfl) rfl ?_
  refine O.oo 1 rfl ?_
  refine O.q (Qt.lv 0 A3 rfl rfl rfl) rfl ?_
  refine O.oo 2 rfl ?_
  refine O.sd 10 rfl (fun p5 => ?_) (fun p5 => ?_)
  ·
    refine O.oo 1 rfl ?_
    refine O.gq (t := 10) rfl rfl rfl rfl (Qt.lv 1 A3 rfl rfl rfl) rfl ?_
    refine O.oo 1 rfl ?_
    refine O.gq (t := 10) rfl rfl rfl rfl (Qt.lv 0 A3 rfl rfl rfl) rfl ?_
    refine O.oo 3 rfl ?_
    refine O.sd 17 rfl (fun p6 => ?_) (fun p6 => ?_)
    ·
      refine O.oo 1 rfl ?_
      refine O.gq (t := 17) rfl rfl rfl rfl (Qt.lv 1 A3 rfl rfl rfl) rfl ?_
      refine O.oo 1 rfl ?_
      refine O.gq (t := 17) rfl rfl rfl rfl (Qt.lv 0 A3 rfl rfl rfl) rfl ?_
      refine O.oo 3 rfl ?_
      refine O.sd 24 rfl (fun p7 => ?_) (fun p7 => ?_)
      ·
        refine O.oo 1 rfl ?_
        refine O.gq (t := 24) rfl rfl rfl rfl (Qt.lv 1 A22 rfl rfl rfl) rfl ?_
        refine O.oo 1 rfl ?_
        refine O.gq (t := 24) rfl rfl rfl rfl (Qt.lv 0 A22 rfl rfl rfl) rfl ?_
        refine O.oo 3 rfl ?_
        refine O.sd 31 rfl (fun p8 => ?_) (fun p8 => ?_)
        ·
          refine O.oo 1 rfl ?_
          refine O.gq (t := 31) rfl rfl rfl rfl (Qt.lv 1 A23 rfl rfl rfl) rfl ?_
          refine O.oo 1 rfl ?_
          refine O.gq (t := 31) rfl rfl rfl rfl (Qt.lv 0 A23 rfl rfl rfl) rfl ?_
          refine O.gl (t := 31) rfl rfl rfl rfl (Lo.ca C45 (sl_EqualFunc sv l sv2 l2 hl hc hl2 hc2) [] rfl rfl (.ro 0 rfl (.ro 1 rfl (.ro 2 rfl (.ro 3 rfl .nil))))) rfl ?_
          rintro _ _ ⟨_, ⟨rfl, rfl⟩, rfl⟩
          refine O.oc 3 rfl ?_
          exact J.r0 rfl rfl ⟨(by first | (have hn_ : n = n2 := (by omega); simp [vOf, Si.same, hn_, *, Bool.and_assoc]; done) | (have hn_ : ¬ n = n2 := (by omega); simp [vOf, Si.same, hn_, *, Bool.and_assoc]; done) | (simp [vOf, Si.same, *, Bool.and_assoc]; done)), rfl⟩
        ·
          refine O.oc 8 rfl ?_
          exact J.r0 rfl rfl ⟨(by first | (have hn_ : n = n2 := (by omega); simp [vOf, Si.same, hn_, *, Bool.and_assoc]; done) | (have hn_ : ¬ n = n2 := (by omega); simp [vOf, Si.same, hn_, *, Bool.and_assoc]; done) | (simp [vOf, Si.same, *, Bool.and_assoc]; done)), rfl⟩
      ·
        refine O.oc 15 rfl ?_
        exact J.r0 rfl rfl ⟨(by first | (have hn_ : n = n2 := (by omega); simp [vOf, Si.same, hn_, *, Bool.and_assoc]; done) | (have hn_ : ¬ n = n2 := (by omega); simp [vOf, Si.same, hn_, *, Bool.and_assoc]; done) | (simp [vOf, Si.same, *, Bool.and_assoc]; done)), rfl⟩
    ·
      refine O.oc 22 rfl ?_
      exact J.r0 rfl rfl ⟨(by first | (have hn_ : n = n2 := (by omega); simp [vOf, Si.same, hn_, *, Bool.and_assoc]; done) | (have hn_ : ¬ n = n2 := (by omega); simp [vOf, Si.same, hn_, *, Bool.and_assoc]; done) | (simp [vOf, Si.same, *, Bool.and_assoc]; done)), rfl⟩
  ·
    refine O.oc 29 rfl ?_
    exact J.r0 rfl rfl ⟨(by first | (have hn_ : n = n2 := (by omega); simp [vOf, Si.same, hn_, *, Bool.and_assoc]; done) | (have hn_ : ¬ n = n2 := (by omega); simp [vOf, Si.same, hn_, *, Bool.and_assoc]; done) | (simp [vOf, Si.same, *, Bool.and_assoc]; done)), rfl⟩

set_option maxRecDepth 100000 in
set_option maxHeartbeats 1000000 in
theorem r30_Same (b c r : Int) (n : Nat) (sv : Value) (l : List Sg) (b2 c2 r2 : Int) (n2 : Nat) (sv2 : Value) (l2 : List Sg) (hl : l.length ≤ 30000) (hc : ∀ s ∈ l, s.cl.length ≤ 30000) (hl2 : l2.length ≤ 30000) (hc2 : ∀ s ∈ l2, s.cl.length ≤ 30000) : Tri Tryz.prog 10 #[.agg #[.int .i64 b, .int .i64 c, .int .i64 r, .int .u64 (Nat.cast n : Int), sv], .agg #[.int .i64 b2, .int .i64 c2, .int .i64 r2, .int .u64 (Nat.cast n2 : Int), sv2]] [rd sv 14 (l.map Sg.cells), ros (l.map Sg.rd), rd sv2 14 (l2.map Sg.cells), ros (l2.map Sg.rd)] [] (fun v L' => v = .bool (Si.same b c r n l b2 c2 r2 n2 l2) ∧ L' = []) := by
  refine Tri.en F10 rfl K10 rfl fun w0 => ?_
  refine J.co 2 rfl ?_
  refine O.one (Src.ro 0 rfl) (fun hV2 => ?_)
  refine O.l (Lo.bx rfl rfl) rfl ?_
  rintro _ _ ⟨g1, rfl, rfl⟩
  refine O.one (Src.ro 2 rfl) (fun hV4 => ?_)
  refine O.l (Lo.bx rfl rfl) rfl ?_
  rintro _ _ ⟨g3, rfl, rfl⟩
  refine O.oo 6 rfl ?_
  refine O.q (Qt.lv 1 A3 rfl rfl rfl) rfl ?_
  refine O.oo 1 rfl ?_
  refine O.q (Qt.lv 0 A3 rfl rfl rfl) rfl ?_
  refine O.oo 2 rfl ?_
  refine O.sd 11 rfl (fun p5 => ?_) (fun p5 => ?_)
  ·
    refine O.oc 35 rfl ?_
    exact J.r0 rfl rfl ⟨(by rw [Si.same_no (by omega)]; rfl), rfl⟩
  ·
    refine O.oo 1 rfl ?_
    refine O.gq (t := 11) rfl rfl rfl rfl (Qt.lv 1 A3 rfl rfl rfl) rfl ?_
    refine O.oo 1 rfl ?_
    refine O.gq (t := 11) rfl rfl rfl rfl (Qt.lv 0 A3 rfl rfl rfl) rfl ?_
    refine O.oo 3 rfl ?_
    refine O.sd 18 rfl (fun p6 => ?_) (fun p6 => ?_)
    ·
      refine O.oc 28 rfl ?_
      exact J.r0 rfl rfl ⟨(by rw [Si.same_no (by omega)]; rfl), rfl⟩
    ·
      refine O.oo 1 rfl ?_
      refine O.gq (t := 18) rfl rfl rfl rfl (Qt.lv 1 A3 rfl rfl rfl) rfl ?_
      refine O.oo 1 rfl ?_
      refine O.gq (t := 18) rfl rfl rfl rfl (Qt.lv 0 A3 rfl rfl rfl) rfl ?_
      refine O.oo 3 rfl ?_
      refine O.sd 25 rfl (fun p7 => ?_) (fun p7 => ?_)
      ·
        refine O.oc 21 rfl ?_
        exact J.r0 rfl rfl ⟨(by rw [Si.same_no (by omega)]; rfl), rfl⟩
      ·
        refine O.oo 1 rfl ?_
        refine O.gq (t := 25) rfl rfl rfl rfl (Qt.lv 1 A22 rfl rfl rfl) rfl ?_
        refine O.oo 1 rfl ?_
        refine O.gq (t := 25) rfl rfl rfl rfl (Qt.lv 0 A22 rfl rfl rfl) rfl ?_
        refine O.oo 3 rfl ?_
        refine O.sd 32 rfl (fun p8 => ?_) (fun p8 => ?_)
        ·
          refine O.oc 14 rfl ?_
          exact J.r0 rfl rfl ⟨(by rw [Si.same_no (by omega)]; rfl), rfl⟩
        ·
          refine O.oo 1 rfl ?_
          refine O.gq (t := 32) rfl rfl rfl rfl (Qt.lv 1 A23 rfl rfl rfl) rfl ?_
          refine O.gq (t := 32) rfl rfl rfl rfl (Qt.lenM U23 rfl (Src.ro 0 rfl)) rfl ?_
          refine O.oo 1 rfl ?_
          refine O.gq (t := 32) rfl rfl rfl rfl (Qt.lv 0 A23 rfl rfl rfl) rfl ?_
          refine O.gq (t := 32) rfl rfl rfl rfl (Qt.lenM U23 rfl (Src.ro 2 rfl)) rfl ?_
          refine O.oc 3 rfl ?_
          refine J.cd rfl (fun p9 => ?_) (fun p9 => ?_)
          ·
            refine J.cc 4 rfl ?_
            exact J.r0 rfl rfl ⟨(by rw [Si.same_no (by omega)]; rfl), rfl⟩
          ·
            refine J.cc 7 rfl ?_
            refine J.lo (X := Nat) (fun k => k ≤ l.length ∧ l.length = l2.length ∧ Si.sameN l l2 k = true) (fun k => [(5, .int .i64 (k : Int))]) (fun k => []) (fun k => l.length - k) 0 [2, 3] [] [0, 1] ⟨by omega, by omega, Si.sameN_zero⟩ ⟨(eqi (by omega)), trivial⟩ rfl rfl ?_
            rintro k ⟨hk, hle, hN⟩
            refine J.co 5 rfl ?_
            refine O.q (Qt.lv 1 A23 rfl rfl rfl) rfl ?_
            refine O.q (Qt.lenM U23 rfl (Src.ro 0 rfl)) rfl ?_
            refine O.oc 2 rfl ?_
            refine J.cd rfl (fun p10 => ?_) (fun p10 => ?_)
            ·
              refine J.cc 4 rfl ?_
              obtain ⟨e11, he11⟩ := ex_at (l := l) (i := k) (by omega)
              refine J.ros 1 rfl (A := rd e11.cv 4 (e11.cl.map Cl.cells)) (List.mem_map.2 ⟨e11, List.mem_of_getElem? he11, rfl⟩) ?_
              have hhc_ := hc _ (List.mem_of_getElem? he11)
              obtain ⟨e12, he12⟩ := ex_at (l := l2) (i := k) (by omega)
              refine J.ros 3 rfl (A := rd e12.cv 4 (e12.cl.map Cl.cells)) (List.mem_map.2 ⟨e12, List.mem_of_getElem? he12, rfl⟩) ?_
              have hhc2_ := hc2 _ (List.mem_of_getElem? he12)
              refine J.drawTail 10 Tryz.mixed (by kernel_rfl) ?_
              refine S.r 1 rfl ?_
              refine S.q (Qt.lv 1 A23 rfl rfl rfl) rfl ?_
              refine S.r 1 rfl ?_
              refine S.q (Qt.idxM U23 Z47 rfl (Src.ro 0 rfl) rfl (by omega) (by omega)) rfl ?_
              refine S.q (Qt.lea A47 Z47 (Src.ro 0 rfl) he11 0 rfl (by omega) rfl) rfl ?_
              refine S.r 1 rfl ?_
              refine S.q (Qt.lv 0 A23 rfl rfl rfl) rfl ?_
              refine S.r 1 rfl ?_
              refine S.q (Qt.idxM U23 Z47 rfl (Src.ro 2 rfl) rfl (by omega) (by omega)) rfl ?_
              refine S.q (Qt.lea A47 Z47 (Src.ro 2 rfl) he12 0 rfl (by omega) rfl) rfl ?_
              refine S.endO ?_
              refine O.l (Lo.ca C22 (r28_Same e11.x0 e11.x1 e11.x2 e11.x3 e11.x4 e11.x5 e11.x6 e11.x7 e11.x8 e11.x9 e11.x10 e11.x11 e11.x12 e12.x0 e12.x1 e12.x2 e12.x3 e12.x4 e12.x5 e12.x6 e12.x7 e12.x8 e12.x9 e12.x10 e12.x11 e12.x12 e11.cv e12.cv e11.cl e12.cl (by omega) (by omega)) [] rfl rfl (.ro 4 rfl (.ro 5 rfl .nil))) rfl ?_
              rintro _ _ ⟨_, ⟨rfl, rfl⟩, rfl⟩
              refine O.oc 2 rfl ?_
              refine J.cond rfl (fun h14 => ?_) (fun h14 => ?_)
              ·
                have h15 : (Cf.sameI [e11.x0, e11.x1, e11.x2, e11.x3, e11.x4, e11.x5, e11.x6, e11.x7, e11.x8, e11.x9, e11.x10, e11.x11, e11.x12] [e12.x0, e12.x1, e12.x2, e12.x3, e12.x4, e12.x5, e12.x6, e12.x7, e12.x8, e12.x9, e12.x10, e12.x11, e12.x12] && Cf.sameC e11.cl e12.cl) = false := not_flip h14
                refine J.cc 4 rfl ?_
                exact J.r0 rfl rfl ⟨(by rw [Si.same_bad he11 he12 (show Si.sameS e11 e12 = false from (by assumption))]; rfl), rfl⟩
              ·
                have h16 : (Cf.sameI [e11.x0, e11.x1, e11.x2, e11.x3, e11.x4, e11.x5, e11.x6, e11.x7, e11.x8, e11.x9, e11.x10, e11.x11, e11.x12] [e12.x0, e12.x1, e12.x2, e12.x3, e12.x4, e12.x5, e12.x6, e12.x7, e12.x8, e12.x9, e12.x10, e12.x11, e12.x12] && Cf.sameC e11.cl e12.cl) = true := not_flip h14
                refine J.co 4 rfl ?_
                refine O.p (Pu.add' rfl rfl (by omega)) rfl ?_
                refine O.oc 2 rfl ?_
                exact J.lq (k + 1) [2, 3] [] [0, 1] ⟨by omega, hle, Si.sameN_next hN he11 he12 (show Si.sameS e11 e12 = true from (by assumption))⟩ (by omega) ⟨(eqi (by omega)), trivial⟩ rfl rfl
            ·
              refine J.cc 5 rfl ?_
              exact J.r0 rfl rfl ⟨(by rw [Si.same_all ⟨by omega, by omega, by omega, by omega, hle⟩ hN (by omega) (by omega)]; rfl), rfl⟩

end Go.Proofs.YtnhfgnnpbipcnaaGreatDoor
