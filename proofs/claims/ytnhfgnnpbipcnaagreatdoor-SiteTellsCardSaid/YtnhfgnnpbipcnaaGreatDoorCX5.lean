/-
  Walks, printed by a program of mine (lk.py): each function meets its contract.
-/
import Derived.KernelRfl
import Derived.Test.YtnhfgnnpbipcnaaGreatDoorCX4
namespace Go.Proofs.YtnhfgnnpbipcnaaGreatDoor
open Go Go.LK
set_option linter.unusedSimpArgs false

set_option maxRecDepth 100000 in
theorem r28_SameCalls (av bv : Value) (l m : List Cl) (hl : l.length ≤ 100000) (_hm : m.length ≤ 100000) : Tri Tryz.prog 56 #[av, bv] [rd av 4 (l.map Cl.cells), rd bv 4 (m.map Cl.cells)] [] (fun v L' => v = .bool (Cf.sameC l m) ∧ L' = []) := by
  refine Tri.en F56 rfl K56 rfl fun w0 => ?_
  refine J.co 8 rfl ?_
  refine O.q (Qt.lenM U45 rfl (Src.ro 0 rfl)) rfl ?_
  refine O.oo 1 rfl ?_
  refine O.q (Qt.lenM U45 rfl (Src.ro 1 rfl)) rfl ?_
  refine O.oc 2 rfl ?_
  refine J.cd rfl (fun p1 => ?_) (fun p1 => ?_)
  ·
    refine J.cc 4 rfl ?_
    exact J.r0 rfl rfl ⟨(by rw [show Cf.sameC l m = false from decide_eq_false (Cf.eqP_len (by omega))]; rfl), rfl⟩
  ·
    refine J.cc 7 rfl ?_
    refine J.lo (X := Nat) (fun k => k ≤ l.length ∧ (l.take k).map Cf.clL = (m.take k).map Cf.clL) (fun k => [(5, .int .i64 (k : Int))]) (fun k => []) (fun k => l.length - k) 0 [0, 1] [] [] ⟨by omega, rfl⟩ ⟨(eqi (by omega)), trivial⟩ rfl rfl ?_
    rintro k ⟨hk, hst⟩
    refine J.co 5 rfl ?_
    refine O.q (Qt.lenM U45 rfl (Src.ro 0 rfl)) rfl ?_
    refine O.oo 2 rfl ?_
    refine O.sd 15 rfl (fun p2 => ?_) (fun p2 => ?_)
    ·
      refine O.oo 2 rfl ?_
      refine O.gq (t := 15) rfl rfl rfl rfl (Qt.lenM U45 rfl (Src.ro 1 rfl)) rfl ?_
      refine O.oc 3 rfl ?_
      refine J.cd rfl (fun p3 => ?_) (fun p3 => ?_)
      ·
        refine J.cc 4 rfl ?_
        refine J.drawStill Tryz.mixed (by kernel_rfl) ?_
        refine S.r 2 rfl ?_
        obtain ⟨e4, he4⟩ := ex_at (l := l) (i := k) (by omega)
        refine S.q (Qt.idxM U45 Z50 rfl (Src.ro 0 rfl) rfl (by omega) (by omega)) rfl ?_
        refine S.q (Qt.lea A50 Z50 (Src.ro 0 rfl) he4 0 rfl (by omega) rfl) rfl ?_
        refine S.r 2 rfl ?_
        obtain ⟨e5, he5⟩ := ex_at (l := m) (i := k) (by omega)
        refine S.q (Qt.idxM U45 Z50 rfl (Src.ro 1 rfl) rfl (by omega) (by omega)) rfl ?_
        refine S.q (Qt.lea A50 Z50 (Src.ro 1 rfl) he5 0 rfl (by omega) rfl) rfl ?_
        refine S.p (Pu.neqI [e4.to, e4.tier, e4.weight, e4.most] [e5.to, e5.tier, e5.weight, e5.most] N50 Tryz.stoodInHeld50 Tryz.eqGuardType50 (fint50 N50) rfl rfl rfl rfl) rfl ?_
        refine S.endJ ?_
        refine J.cond rfl (fun h6 => ?_) (fun h6 => ?_)
        ·
          have h7 : (decide (([e4.to, e4.tier, e4.weight, e4.most] : List Int) = [e5.to, e5.tier, e5.weight, e5.most])) = false := not_flip h6
          have p8 := of_decide_eq_false h7
          refine J.cc 4 rfl ?_
          exact J.r0 rfl rfl ⟨(by rw [show Cf.sameC l m = false from decide_eq_false (Cf.eqP_bad (f := Cf.clL) he4 he5 (by first | (simp only [Cf.one, Cf.clL, List.cons.injEq, and_true] at *; simp_all; done) | (simp only [Cf.clL] at *; simp_all; done)))]; rfl), rfl⟩
        ·
          have h9 : (decide (([e4.to, e4.tier, e4.weight, e4.most] : List Int) = [e5.to, e5.tier, e5.weight, e5.most])) = true := not_flip h6
          have p10 := of_decide_eq_true h9
          refine J.co 4 rfl ?_
          refine O.p (Pu.add' rfl rfl (by omega)) rfl ?_
          refine O.oc 2 rfl ?_
          exact J.lq (k + 1) [0, 1] [] [] ⟨by omega, Cf.eqP_next hst he4 he5 (by first | (simp only [Cf.one, Cf.clL, List.cons.injEq, and_true] at *; simp_all; done) | (simp only [Cf.clL] at *; simp_all; done))⟩ (by omega) ⟨(eqi (by omega)), trivial⟩ rfl rfl
      ·
        refine J.cc 5 rfl ?_
        exact J.r0 rfl rfl ⟨(by rw [show Cf.sameC l m = true from decide_eq_true (Cf.eqP_all hst (by omega) (by omega))]; rfl), rfl⟩
    ·
      refine O.oc 12 rfl ?_
      exact J.r0 rfl rfl ⟨(by rw [show Cf.sameC l m = true from decide_eq_true (Cf.eqP_all hst (by omega) (by omega))]; rfl), rfl⟩

set_option maxRecDepth 100000 in
set_option maxHeartbeats 1000000 in
theorem r28_Same (x0 x1 x2 x3 x4 x5 x6 x7 x8 x9 x10 x11 x12 : Int) (y0 y1 y2 y3 y4 y5 y6 y7 y8 y9 y10 y11 y12 : Int) (av bv : Value) (l m : List Cl) (hl : l.length ≤ 100000) (hm : m.length ≤ 100000) : Tri Tryz.prog 22 #[.agg #[.int .i64 x0, .int .i64 x1, .int .i64 x2, .int .i64 x3, .int .i64 x4, .int .i64 x5, .int .i64 x6, .int .i64 x7, .int .i64 x8, .int .i64 x9, .int .i64 x10, .int .i64 x11, .int .i64 x12, av], .agg #[.int .i64 y0, .int .i64 y1, .int .i64 y2, .int .i64 y3, .int .i64 y4, .int .i64 y5, .int .i64 y6, .int .i64 y7, .int .i64 y8, .int .i64 y9, .int .i64 y10, .int .i64 y11, .int .i64 y12, bv]] [rd av 4 (l.map Cl.cells), rd bv 4 (m.map Cl.cells)] [] (fun v L' => v = .bool (Cf.sameI [x0, x1, x2, x3, x4, x5, x6, x7, x8, x9, x10, x11, x12] [y0, y1, y2, y3, y4, y5, y6, y7, y8, y9, y10, y11, y12] && Cf.sameC l m) ∧ L' = []) := by
  refine Tri.en F22 rfl K22 rfl fun w0 => ?_
  refine J.co 2 rfl ?_
  refine O.one (Src.ro 0 rfl) (fun hV2 => ?_)
  refine O.l (Lo.bx rfl rfl) rfl ?_
  rintro _ _ ⟨g1, rfl, rfl⟩
  refine O.one (Src.ro 1 rfl) (fun hV4 => ?_)
  refine O.l (Lo.bx rfl rfl) rfl ?_
  rintro _ _ ⟨g3, rfl, rfl⟩
  refine O.oc 3 rfl ?_
  refine J.dm [(0, false), (2, false), (1, true), (3, true), (4, false), (5, false)] [0, 1] Tryz.mixed (by kernel_rfl) rfl ?_
  refine Mx.q rfl (Qt.lva 1 A47 Z47 rfl rfl rfl) rfl ?_
  refine Mx.q rfl (Qt.lva 0 A47 Z47 rfl rfl rfl) rfl ?_
  refine Mx.l rfl (Lo.ca C55 (r28_numbers x0 x1 x2 x3 x4 x5 x6 x7 x8 x9 x10 x11 x12 av l) [] rfl rfl (.ro 0 rfl .nil)) rfl ?_
  rintro v5 _ ⟨_, rfl, rfl⟩
  refine MxK.gp [1, 2] [0, 1] rfl rfl ?_
  refine Mx.l rfl (Lo.ca C55 (r28_numbers y0 y1 y2 y3 y4 y5 y6 y7 y8 y9 y10 y11 y12 bv m) [] rfl rfl (.ro 1 rfl .nil)) rfl ?_
  rintro v6 _ ⟨_, rfl, rfl⟩
  refine MxK.al [2, 3] rfl (by kernel_rfl) ?_
  refine Mx.r 2 rfl ?_
  refine Mx.nil ?_
  refine J.cc 6 rfl ?_
  refine J.lo (X := Nat) (fun k => k ≤ 13 ∧ (([x0, x1, x2, x3, x4, x5, x6, x7, x8, x9, x10, x11, x12] : List Int).take k).map Cf.one = (([y0, y1, y2, y3, y4, y5, y6, y7, y8, y9, y10, y11, y12] : List Int).take k).map Cf.one) (fun k => [(7, .int .i64 (k : Int))]) (fun k => []) (fun k => 13 - k) 0 [2, 3, 5, 6] [] [3, 2, 1, 0] ⟨by omega, rfl⟩ ⟨(eqi (by omega)), trivial⟩ rfl rfl ?_
  rintro k ⟨hk, hst⟩
  refine J.co 5 rfl ?_
  refine O.q (Qt.lenM U53 rfl (Src.row 2 rfl)) rfl ?_
  refine O.oc 2 rfl ?_
  refine J.cd rfl (fun p7 => ?_) (fun p7 => ?_)
  ·
    refine J.cc 4 rfl ?_
    refine J.drawStill Tryz.mixed (by kernel_rfl) ?_
    refine S.r 2 rfl ?_
    obtain ⟨e8, he8⟩ := ex_at (l := [x0, x1, x2, x3, x4, x5, x6, x7, x8, x9, x10, x11, x12]) (i := k) (by omega)
    refine S.q (Qt.idxM U53 Z3 rfl (Src.row 2 rfl) rfl (by omega) (by omega)) rfl ?_
    refine S.q (Qt.le A3 (Src.row 2 rfl) he8 0 rfl (by omega) rfl) rfl ?_
    refine S.r 2 rfl ?_
    obtain ⟨e9, he9⟩ := ex_at (l := [y0, y1, y2, y3, y4, y5, y6, y7, y8, y9, y10, y11, y12]) (i := k) (by first | omega | (simp only [List.length_cons, List.length_nil] at *; omega))
    refine S.q (Qt.idxM U53 Z3 rfl (Src.row 3 rfl) rfl (by omega) (by omega)) rfl ?_
    refine S.q (Qt.le A3 (Src.row 3 rfl) he9 0 rfl (by omega) rfl) rfl ?_
    refine S.r 1 rfl ?_
    refine S.endJ ?_
    refine J.cd rfl (fun p10 => ?_) (fun p10 => ?_)
    ·
      refine J.cc 4 rfl ?_
      exact J.r0 rfl rfl ⟨(by rw [show Cf.sameI [x0, x1, x2, x3, x4, x5, x6, x7, x8, x9, x10, x11, x12] [y0, y1, y2, y3, y4, y5, y6, y7, y8, y9, y10, y11, y12] = false from decide_eq_false (Cf.eqP_bad (f := Cf.one) he8 he9 (by simp only [Cf.one, List.cons.injEq, and_true] at *; simp_all; done))]; rfl), rfl⟩
    ·
      refine J.co 4 rfl ?_
      refine O.p (Pu.add' rfl rfl (by omega)) rfl ?_
      refine O.oc 2 rfl ?_
      exact J.lq (k + 1) [2, 3, 5, 6] [] [0, 1, 2, 3] ⟨(by simp only [List.length_cons, List.length_nil] at *; omega), Cf.eqP_next hst he8 he9 (by simp only [Cf.one, List.cons.injEq, and_true] at *; simp_all; done)⟩ (by (try dsimp only); first | omega | (simp only [List.length_cons, List.length_nil] at *; omega)) ⟨(eqi (by omega)), trivial⟩ rfl rfl
  ·
    refine J.co 4 rfl ?_
    refine O.q (Qt.lv 0 A45 rfl rfl rfl) rfl ?_
    refine O.oo 1 rfl ?_
    refine O.q (Qt.lv 1 A45 rfl rfl rfl) rfl ?_
    refine O.l (Lo.ca C56 (r28_SameCalls av bv l m (by omega) (by omega)) [] rfl rfl (.ro 0 rfl (.ro 1 rfl .nil))) rfl ?_
    rintro _ _ ⟨_, ⟨rfl, rfl⟩, rfl⟩
    refine O.oc 2 rfl ?_
    exact J.r0 rfl rfl ⟨(by rw [show Cf.sameI [x0, x1, x2, x3, x4, x5, x6, x7, x8, x9, x10, x11, x12] [y0, y1, y2, y3, y4, y5, y6, y7, y8, y9, y10, y11, y12] = true from decide_eq_true (Cf.eqP_all hst (by simp only [List.length_cons, List.length_nil] at *; omega) (by simp only [List.length_cons, List.length_nil] at *; omega))]; rfl), rfl⟩

set_option maxRecDepth 100000 in
theorem sl_Equal_int (av bv : Value) (l m : List Int) (hl : l.length ≤ 100000) (_hm : m.length ≤ 100000) : Tri Tryz.prog 79 #[av, bv] [rd av 1 (l.map encZ), rd bv 1 (m.map encZ)] [] (fun v L' => v = .bool (Cf.sameI l m) ∧ L' = []) := by
  refine Tri.en F79 rfl K79 rfl fun w0 => ?_
  refine J.co 8 rfl ?_
  refine O.q (Qt.lenM U53 rfl (Src.ro 0 rfl)) rfl ?_
  refine O.oo 1 rfl ?_
  refine O.q (Qt.lenM U53 rfl (Src.ro 1 rfl)) rfl ?_
  refine O.oc 2 rfl ?_
  refine J.cd rfl (fun p1 => ?_) (fun p1 => ?_)
  ·
    refine J.cc 4 rfl ?_
    exact J.r0 rfl rfl ⟨(by rw [show Cf.sameI l m = false from decide_eq_false (Cf.eqP_len (by omega))]; rfl), rfl⟩
  ·
    refine J.co 5 rfl ?_
    refine O.q (Qt.lenM U53 rfl (Src.ro 0 rfl)) rfl ?_
    refine O.oc 3 rfl ?_
    refine J.lo (X := Nat) (fun k => k ≤ l.length ∧ (l.take k).map Cf.one = (m.take k).map Cf.one) (fun k => [(13, .int .i64 (k : Int))]) (fun k => []) (fun k => l.length - k) 0 [0, 1, 12] [] [] ⟨by omega, rfl⟩ ⟨(eqi (by omega)), trivial⟩ rfl rfl ?_
    rintro k ⟨hk, hst⟩
    refine J.cc 5 rfl ?_
    refine J.cd rfl (fun p2 => ?_) (fun p2 => ?_)
    ·
      refine J.cc 9 rfl ?_
      refine J.drawStill Tryz.mixed (by kernel_rfl) ?_
      refine S.r 2 rfl ?_
      obtain ⟨e3, he3⟩ := ex_at (l := l) (i := k) (by omega)
      refine S.q (Qt.idxM U53 Z3 rfl (Src.ro 0 rfl) rfl (by omega) (by omega)) rfl ?_
      refine S.q (Qt.le A3 (Src.ro 0 rfl) he3 0 rfl (by omega) rfl) rfl ?_
      refine S.r 2 rfl ?_
      obtain ⟨e4, he4⟩ := ex_at (l := m) (i := k) (by omega)
      refine S.q (Qt.idxM U53 Z3 rfl (Src.ro 1 rfl) rfl (by omega) (by omega)) rfl ?_
      refine S.q (Qt.le A3 (Src.ro 1 rfl) he4 0 rfl (by omega) rfl) rfl ?_
      refine S.r 1 rfl ?_
      refine S.endJ ?_
      refine J.cd rfl (fun p5 => ?_) (fun p5 => ?_)
      ·
        refine J.cc 4 rfl ?_
        exact J.r0 rfl rfl ⟨(by rw [show Cf.sameI l m = false from decide_eq_false (Cf.eqP_bad (f := Cf.one) he3 he4 (by first | (simp only [Cf.one, Cf.clL, List.cons.injEq, and_true] at *; simp_all; done) | (simp only [Cf.clL] at *; simp_all; done)))]; rfl), rfl⟩
      ·
        refine J.co 3 rfl ?_
        refine O.p (Pu.add' rfl rfl (by omega)) rfl ?_
        refine O.oc 2 rfl ?_
        exact J.lq (k + 1) [0, 1, 12] [] [] ⟨by omega, Cf.eqP_next hst he3 he4 (by first | (simp only [Cf.one, Cf.clL, List.cons.injEq, and_true] at *; simp_all; done) | (simp only [Cf.clL] at *; simp_all; done))⟩ (by omega) ⟨(eqi (by omega)), trivial⟩ rfl rfl
    ·
      refine J.cc 5 rfl ?_
      exact J.r0 rfl rfl ⟨(by rw [show Cf.sameI l m = true from decide_eq_true (Cf.eqP_all hst (by omega) (by omega))]; rfl), rfl⟩

set_option maxRecDepth 100000 in
theorem sl_Equal_Call (av bv : Value) (l m : List Cl) (hl : l.length ≤ 100000) (_hm : m.length ≤ 100000) : Tri Tryz.prog 80 #[av, bv] [rd av 4 (l.map Cl.cells), rd bv 4 (m.map Cl.cells)] [] (fun v L' => v = .bool (Cf.sameC l m) ∧ L' = []) := by
  refine Tri.en F80 rfl K80 rfl fun w0 => ?_
  refine J.co 8 rfl ?_
  refine O.q (Qt.lenM U45 rfl (Src.ro 0 rfl)) rfl ?_
  refine O.oo 1 rfl ?_
  refine O.q (Qt.lenM U45 rfl (Src.ro 1 rfl)) rfl ?_
  refine O.oc 2 rfl ?_
  refine J.cd rfl (fun p1 => ?_) (fun p1 => ?_)
  ·
    refine J.cc 4 rfl ?_
    exact J.r0 rfl rfl ⟨(by rw [show Cf.sameC l m = false from decide_eq_false (Cf.eqP_len (by omega))]; rfl), rfl⟩
  ·
    refine J.co 5 rfl ?_
    refine O.q (Qt.lenM U45 rfl (Src.ro 0 rfl)) rfl ?_
    refine O.oc 3 rfl ?_
    refine J.lo (X := Nat) (fun k => k ≤ l.length ∧ (l.take k).map Cf.clL = (m.take k).map Cf.clL) (fun k => [(13, .int .i64 (k : Int))]) (fun k => []) (fun k => l.length - k) 0 [0, 1, 12] [] [] ⟨by omega, rfl⟩ ⟨(eqi (by omega)), trivial⟩ rfl rfl ?_
    rintro k ⟨hk, hst⟩
    refine J.cc 5 rfl ?_
    refine J.cd rfl (fun p2 => ?_) (fun p2 => ?_)
    ·
      refine J.cc 9 rfl ?_
      refine J.drawStill Tryz.mixed (by kernel_rfl) ?_
      refine S.r 2 rfl ?_
      obtain ⟨e3, he3⟩ := ex_at (l := l) (i := k) (by omega)
      refine S.q (Qt.idxM U45 Z50 rfl (Src.ro 0 rfl) rfl (by omega) (by omega)) rfl ?_
      refine S.q (Qt.lea A50 Z50 (Src.ro 0 rfl) he3 0 rfl (by omega) rfl) rfl ?_
      refine S.r 2 rfl ?_
      obtain ⟨e4, he4⟩ := ex_at (l := m) (i := k) (by omega)
      refine S.q (Qt.idxM U45 Z50 rfl (Src.ro 1 rfl) rfl (by omega) (by omega)) rfl ?_
      refine S.q (Qt.lea A50 Z50 (Src.ro 1 rfl) he4 0 rfl (by omega) rfl) rfl ?_
      refine S.p (Pu.neqI [e3.to, e3.tier, e3.weight, e3.most] [e4.to, e4.tier, e4.weight, e4.most] N50 Tryz.stoodInHeld50 Tryz.eqGuardType50 (fint50 N50) rfl rfl rfl rfl) rfl ?_
      refine S.endJ ?_
      refine J.cond rfl (fun h5 => ?_) (fun h5 => ?_)
      ·
        have h6 : (decide (([e3.to, e3.tier, e3.weight, e3.most] : List Int) = [e4.to, e4.tier, e4.weight, e4.most])) = false := not_flip h5
        have p7 := of_decide_eq_false h6
        refine J.cc 4 rfl ?_
        exact J.r0 rfl rfl ⟨(by rw [show Cf.sameC l m = false from decide_eq_false (Cf.eqP_bad (f := Cf.clL) he3 he4 (by first | (simp only [Cf.one, Cf.clL, List.cons.injEq, and_true] at *; simp_all; done) | (simp only [Cf.clL] at *; simp_all; done)))]; rfl), rfl⟩
      ·
        have h8 : (decide (([e3.to, e3.tier, e3.weight, e3.most] : List Int) = [e4.to, e4.tier, e4.weight, e4.most])) = true := not_flip h5
        have p9 := of_decide_eq_true h8
        refine J.co 3 rfl ?_
        refine O.p (Pu.add' rfl rfl (by omega)) rfl ?_
        refine O.oc 2 rfl ?_
        exact J.lq (k + 1) [0, 1, 12] [] [] ⟨by omega, Cf.eqP_next hst he3 he4 (by first | (simp only [Cf.one, Cf.clL, List.cons.injEq, and_true] at *; simp_all; done) | (simp only [Cf.clL] at *; simp_all; done))⟩ (by omega) ⟨(eqi (by omega)), trivial⟩ rfl rfl
    ·
      refine J.cc 5 rfl ?_
      exact J.r0 rfl rfl ⟨(by rw [show Cf.sameC l m = true from decide_eq_true (Cf.eqP_all hst (by omega) (by omega))]; rfl), rfl⟩

set_option maxRecDepth 100000 in
set_option maxHeartbeats 1000000 in
theorem cf_Same (x0 x1 x2 x3 x4 x5 x6 x7 x8 x9 x10 x11 x12 : Int) (y0 y1 y2 y3 y4 y5 y6 y7 y8 y9 y10 y11 y12 : Int) (av bv : Value) (l m : List Cl) (hl : l.length ≤ 100000) (hm : m.length ≤ 100000) : Tri Tryz.prog 46 #[.agg #[.int .i64 x0, .int .i64 x1, .int .i64 x2, .int .i64 x3, .int .i64 x4, .int .i64 x5, .int .i64 x6, .int .i64 x7, .int .i64 x8, .int .i64 x9, .int .i64 x10, .int .i64 x11, .int .i64 x12, av], .agg #[.int .i64 y0, .int .i64 y1, .int .i64 y2, .int .i64 y3, .int .i64 y4, .int .i64 y5, .int .i64 y6, .int .i64 y7, .int .i64 y8, .int .i64 y9, .int .i64 y10, .int .i64 y11, .int .i64 y12, bv]] [rd av 4 (l.map Cl.cells), rd bv 4 (m.map Cl.cells)] [] (fun v L' => v = .bool (Cf.sameI [x0, x1, x2, x3, x4, x5, x6, x7, x8, x9, x10, x11, x12] [y0, y1, y2, y3, y4, y5, y6, y7, y8, y9, y10, y11, y12] && Cf.sameC l m) ∧ L' = []) := by
  refine Tri.en F46 rfl K46 rfl fun w0 => ?_
  refine J.co 2 rfl ?_
  refine O.one (Src.ro 0 rfl) (fun hV2 => ?_)
  refine O.l (Lo.bx rfl rfl) rfl ?_
  rintro _ _ ⟨g1, rfl, rfl⟩
  refine O.one (Src.ro 1 rfl) (fun hV4 => ?_)
  refine O.l (Lo.bx rfl rfl) rfl ?_
  rintro _ _ ⟨g3, rfl, rfl⟩
  refine O.oc 3 rfl ?_
  refine J.dm [(0, false), (2, false), (1, true), (3, true), (4, true), (5, false), (6, false), (7, false), (8, false), (9, false), (10, true), (11, false), (12, false)] [0, 1] Tryz.mixed (by kernel_rfl) rfl ?_
  refine Mx.q rfl (Qt.lva 1 A47 Z47 rfl rfl rfl) rfl ?_
  refine Mx.q rfl (Qt.lva 0 A47 Z47 rfl rfl rfl) rfl ?_
  refine Mx.l rfl (Lo.ca C71 (cf_numbers x0 x1 x2 x3 x4 x5 x6 x7 x8 x9 x10 x11 x12 av l) [] rfl rfl (.ro 0 rfl .nil)) rfl ?_
  rintro v5 _ ⟨_, rfl, rfl⟩
  refine MxK.gp [1, 2] [0, 1] rfl rfl ?_
  refine Mx.l rfl (Lo.ca C71 (cf_numbers y0 y1 y2 y3 y4 y5 y6 y7 y8 y9 y10 y11 y12 bv m) [] rfl rfl (.ro 1 rfl .nil)) rfl ?_
  rintro v6 _ ⟨_, rfl, rfl⟩
  refine MxK.al [2, 3] rfl (by kernel_rfl) ?_
  refine Mx.l rfl (Lo.ca C79 (sl_Equal_int v5 v6 ([x0, x1, x2, x3, x4, x5, x6, x7, x8, x9, x10, x11, x12]) ([y0, y1, y2, y3, y4, y5, y6, y7, y8, y9, y10, y11, y12]) (by first | omega | decide | (simp only [List.length_cons, List.length_nil]; omega)) (by first | omega | decide | (simp only [List.length_cons, List.length_nil]; omega))) [] rfl rfl (.of 1 row_rd rfl rfl (.of 0 row_rd rfl rfl .nil))) rfl ?_
  rintro _ _ ⟨_, ⟨rfl, rfl⟩, rfl⟩
  refine MxK.al [2, 3] rfl (by kernel_rfl) ?_
  refine Mx.r 1 rfl ?_
  refine by_bool (Cf.sameI ([x0, x1, x2, x3, x4, x5, x6, x7, x8, x9, x10, x11, x12]) ([y0, y1, y2, y3, y4, y5, y6, y7, y8, y9, y10, y11, y12])) (fun h8 => ?_) (fun h8 => ?_)
  ·
    refine Mx.gq (t := 10) rfl rfl rfl h8 rfl (Pu.qt (Pu.fieldAddr (off' := 13) U47 rfl Z45 rfl rfl rfl)) rfl ?_
    refine Mx.gq (t := 10) rfl rfl rfl h8 rfl (Qt.lv 1 A45 rfl rfl rfl) rfl ?_
    refine Mx.gq (t := 10) rfl rfl rfl h8 rfl (Pu.qt (Pu.fieldAddr (off' := 13) U47 rfl Z45 rfl rfl rfl)) rfl ?_
    refine Mx.gq (t := 10) rfl rfl rfl h8 rfl (Qt.lv 0 A45 rfl rfl rfl) rfl ?_
    refine Mx.gl (t := 10) rfl rfl rfl h8 rfl (Lo.ca C80 (sl_Equal_Call av bv l m (by omega) (by omega)) [] rfl rfl (.ro 0 rfl (.ro 1 rfl .nil))) rfl ?_
    rintro _ _ ⟨_, ⟨rfl, rfl⟩, rfl⟩
    refine MxK.gp [2, 3] [0, 1] rfl rfl ?_
    refine Mx.p rfl (Pu.pickT rfl h8 rfl) rfl ?_
    refine Mx.r 1 rfl ?_
    refine Mx.nil ?_
    exact J.r0 rfl rfl ⟨(by simp only [vOf, *, Bool.true_and, Bool.false_and]), rfl⟩
  ·
    refine Mx.gskip (t := 10) rfl rfl rfl (no_bool (by rw [h8]; decide)) rfl rfl ?_
    refine Mx.gskip (t := 10) rfl rfl rfl (no_bool (by rw [h8]; decide)) rfl rfl ?_
    refine Mx.gskip (t := 10) rfl rfl rfl (no_bool (by rw [h8]; decide)) rfl rfl ?_
    refine Mx.gskip (t := 10) rfl rfl rfl (no_bool (by rw [h8]; decide)) rfl rfl ?_
    refine Mx.gskipL (t := 10) rfl rfl rfl (no_bool (by rw [h8]; decide)) rfl rfl ?_
    refine MxK.gp [2, 3] [0, 1] rfl rfl ?_
    refine Mx.p rfl (Pu.pickF rfl h8 rfl) rfl ?_
    refine Mx.r 1 rfl ?_
    refine Mx.nil ?_
    exact J.r0 rfl rfl ⟨(by simp only [vOf, *, Bool.true_and, Bool.false_and]), rfl⟩

set_option maxRecDepth 100000 in
theorem r28_from (n a b : Int) : Tri Tryz.prog 61 #[.int .i64 n, .int .i64 a, .int .i64 b] [] [] (fun v L' => v = .bool (Cf.from_ n a b) ∧ L' = []) := by
  refine Tri.en F61 rfl K61 rfl fun w0 => ?_
  refine J.co 10 rfl ?_
  refine O.sd 10 rfl (fun p1 => ?_) (fun p1 => ?_)
  ·
    refine O.oc 6 rfl ?_
    exact J.r0 rfl rfl ⟨(by simp only [vOf, Cf.from_, *, decide_true, decide_false, Bool.true_and, Bool.false_and]), rfl⟩
  ·
    refine O.oc 6 rfl ?_
    exact J.r0 rfl rfl ⟨(by simp only [vOf, Cf.from_, *, decide_true, decide_false, Bool.true_and, Bool.false_and]), rfl⟩

set_option maxRecDepth 100000 in
set_option maxHeartbeats 1000000 in
theorem r28_calls (x0 x1 x2 x3 x4 x5 x6 x7 x8 x9 x10 x11 x12 : Int) (cv : Value) (cs : List Cl) (self services : Int) (h0 : -1000000 ≤ services) (h1 : services ≤ 1000000) (hl : cs.length ≤ 100000) : Tri Tryz.prog 63 #[.agg #[.int .i64 x0, .int .i64 x1, .int .i64 x2, .int .i64 x3, .int .i64 x4, .int .i64 x5, .int .i64 x6, .int .i64 x7, .int .i64 x8, .int .i64 x9, .int .i64 x10, .int .i64 x11, .int .i64 x12, cv], .int .i64 self, .int .i64 services] [rd cv 4 (cs.map Cl.cells)] [] (fun v L' => v = .bool (Cf.callsOk cs x3 self services) ∧ L' = []) := by
  refine Tri.en F63 rfl K63 rfl fun w0 => ?_
  refine J.co 2 rfl ?_
  refine O.one (Src.ro 0 rfl) (fun hV2 => ?_)
  refine O.l (Lo.bx rfl rfl) rfl ?_
  rintro _ _ ⟨g1, rfl, rfl⟩
  refine O.oc 8 rfl ?_
  refine J.lo (X := Nat) (fun k => k ≤ cs.length ∧ Cf.okU cs x3 self services k = true) (fun k => [(7, .int .i64 (k : Int))]) (fun k => []) (fun k => cs.length - k) 0 [1, 2, 3] [] [0] ⟨by omega, rfl⟩ ⟨(eqi (by omega)), trivial⟩ rfl rfl ?_
  rintro k ⟨hk, hok⟩
  refine J.co 5 rfl ?_
  refine O.q (Qt.lv 0 A45 rfl rfl rfl) rfl ?_
  refine O.q (Qt.lenM U45 rfl (Src.ro 0 rfl)) rfl ?_
  refine O.oc 2 rfl ?_
  refine J.cd rfl (fun p3 => ?_) (fun p3 => ?_)
  ·
    refine J.co 6 rfl ?_
    refine O.q (Qt.lv 0 A45 rfl rfl rfl) rfl ?_
    refine O.oo 1 rfl ?_
    obtain ⟨e4, he4⟩ := ex_at (l := cs) (i := k) (by omega)
    refine O.q (Qt.idxM U45 Z50 rfl (Src.ro 0 rfl) rfl (by omega) (by omega)) rfl ?_
    refine O.q (Qt.lea A50 Z50 (Src.ro 0 rfl) he4 0 rfl (by omega) rfl) rfl ?_
    refine O.l (Lo.al Y50 rfl) rfl ?_
    rintro _ _ ⟨g5, rfl, rfl⟩
    refine O.l0 (Lo.st 0 Z50 rfl rfl rfl rfl rfl rfl rfl) ?_
    rintro _ _ rfl
    refine O.oo 5 rfl ?_
    refine O.q (Qt.lv 0 A3 rfl rfl rfl) rfl ?_
    refine O.oo 1 rfl ?_
    refine O.p (Pu.sub' rfl rfl (by omega)) rfl ?_
    refine O.l (Lo.ca C61 (r28_from e4.to 0 (services - 1)) [] rfl rfl .nil) rfl ?_
    rintro _ _ ⟨_, ⟨rfl, rfl⟩, rfl⟩
    refine O.oo 2 rfl ?_
    refine O.sp 28 rfl (fun h7 => ?_) (fun h7 => ?_)
    ·
      have h8 : (Cf.from_ e4.to 0 (services - 1)) = false := not_flip h7
      refine O.oc 31 rfl ?_
      exact J.r0 rfl rfl ⟨(by rw [Cf.callsOk_bad he4 (.inr (by simp only [Cf.right, *, Bool.true_and, Bool.false_and, Bool.and_true, Bool.and_false, decide_true, decide_false, Bool.not_true, Bool.not_false]))]; rfl), rfl⟩
    ·
      have h9 : (Cf.from_ e4.to 0 (services - 1)) = true := not_flip h7
      refine O.oo 1 rfl ?_
      refine O.gq (t := 28) rfl rfl rfl rfl (Qt.lv 0 A3 rfl rfl rfl) rfl ?_
      refine O.oo 4 rfl ?_
      refine O.sd 34 rfl (fun p10 => ?_) (fun p10 => ?_)
      ·
        refine O.oc 25 rfl ?_
        exact J.r0 rfl rfl ⟨(by rw [Cf.callsOk_bad he4 (.inr (by simp only [Cf.right, *, Bool.true_and, Bool.false_and, Bool.and_true, Bool.and_false, decide_true, decide_false, Bool.not_true, Bool.not_false]))]; rfl), rfl⟩
      ·
        refine O.oo 1 rfl ?_
        refine O.gq (t := 34) rfl rfl rfl rfl (Qt.lv 0 A3 rfl rfl rfl) rfl ?_
        refine O.oo 1 rfl ?_
        refine O.gq (t := 34) rfl rfl rfl rfl (Qt.lv 1 A3 rfl rfl rfl) rfl ?_
        refine O.gl (t := 34) rfl rfl rfl rfl (Lo.ca C61 (r28_from e4.tier 0 x3) [] rfl rfl .nil) rfl ?_
        rintro _ _ ⟨_, ⟨rfl, rfl⟩, rfl⟩
        refine O.oo 3 rfl ?_
        refine O.sp 42 rfl (fun h12 => ?_) (fun h12 => ?_)
        ·
          have h13 : (Cf.from_ e4.tier 0 x3) = false := not_flip h12
          refine O.oc 17 rfl ?_
          exact J.r0 rfl rfl ⟨(by rw [Cf.callsOk_bad he4 (.inr (by simp only [Cf.right, *, Bool.true_and, Bool.false_and, Bool.and_true, Bool.and_false, decide_true, decide_false, Bool.not_true, Bool.not_false]))]; rfl), rfl⟩
        ·
          have h14 : (Cf.from_ e4.tier 0 x3) = true := not_flip h12
          refine O.oo 1 rfl ?_
          refine O.gq (t := 42) rfl rfl rfl rfl (Qt.lv 0 A3 rfl rfl rfl) rfl ?_
          refine O.gl (t := 42) rfl rfl rfl rfl (Lo.ca C61 (r28_from e4.weight 1 8) [] rfl rfl .nil) rfl ?_
          rintro _ _ ⟨_, ⟨rfl, rfl⟩, rfl⟩
          refine O.oo 3 rfl ?_
          refine O.sp 48 rfl (fun h16 => ?_) (fun h16 => ?_)
          ·
            have h17 : (Cf.from_ e4.weight 1 8) = false := not_flip h16
            refine O.oc 11 rfl ?_
            exact J.r0 rfl rfl ⟨(by rw [Cf.callsOk_bad he4 (.inr (by simp only [Cf.right, *, Bool.true_and, Bool.false_and, Bool.and_true, Bool.and_false, decide_true, decide_false, Bool.not_true, Bool.not_false]))]; rfl), rfl⟩
          ·
            have h18 : (Cf.from_ e4.weight 1 8) = true := not_flip h16
            refine O.oo 1 rfl ?_
            refine O.gq (t := 48) rfl rfl rfl rfl (Qt.lv 0 A3 rfl rfl rfl) rfl ?_
            refine O.gl (t := 48) rfl rfl rfl rfl (Lo.ca C61 (r28_from e4.most 1 65535) [] rfl rfl .nil) rfl ?_
            rintro _ _ ⟨_, ⟨rfl, rfl⟩, rfl⟩
            refine O.oc 3 rfl ?_
            refine J.cond rfl (fun h20 => ?_) (fun h20 => ?_)
            ·
              have h21 : (Cf.from_ e4.most 1 65535) = false := not_flip h20
              refine J.cc 4 rfl ?_
              exact J.r0 rfl rfl ⟨(by rw [Cf.callsOk_bad he4 (.inr (by simp only [Cf.right, *, Bool.true_and, Bool.false_and, Bool.and_true, Bool.and_false, decide_true, decide_false, Bool.not_true, Bool.not_false]))]; rfl), rfl⟩
            ·
              have h22 : (Cf.from_ e4.most 1 65535) = true := not_flip h20
              refine J.cc 6 rfl ?_
              refine J.lo (X := Nat) (fun j => j ≤ k ∧ ((cs.take j).any fun d => decide (d.to = e4.to)) = false) (fun j => [(9, .int .i64 (j : Int))]) (fun j => []) (fun j => k - j) 0 [1, 2, 3, 7, 8] [] [1, 0] ⟨by omega, rfl⟩ ⟨(eqi (by omega)), trivial⟩ rfl rfl ?_
              rintro j ⟨hj, hno⟩
              refine J.cc 7 rfl ?_
              refine J.cd rfl (fun p23 => ?_) (fun p23 => ?_)
              ·
                refine J.cc 4 rfl ?_
                refine J.drawStill Tryz.mixed (by kernel_rfl) ?_
                refine S.r 1 rfl ?_
                refine S.q (Qt.lv 0 A45 rfl rfl rfl) rfl ?_
                refine S.r 1 rfl ?_
                obtain ⟨e24, he24⟩ := ex_at (l := cs) (i := j) (by omega)
                refine S.q (Qt.idxM U45 Z50 rfl (Src.ro 0 rfl) rfl (by omega) (by omega)) rfl ?_
                refine S.r 1 rfl ?_
                refine S.q (Qt.le A3 (Src.ro 0 rfl) he24 0 rfl (by omega) rfl) rfl ?_
                refine S.r 1 rfl ?_
                refine S.q (Qt.lv 1 A3 rfl rfl rfl) rfl ?_
                refine S.r 1 rfl ?_
                refine S.endJ ?_
                refine J.cd rfl (fun p25 => ?_) (fun p25 => ?_)
                ·
                  refine J.cc 4 rfl ?_
                  exact J.r0 rfl rfl ⟨(by rw [Cf.callsOk_bad he4 (.inl (Cf.anyP_hit he24 (by omega) (by assumption)))]; rfl), rfl⟩
                ·
                  refine J.co 4 rfl ?_
                  refine O.p (Pu.add' rfl rfl (by omega)) rfl ?_
                  refine O.oc 2 rfl ?_
                  exact J.lq (j + 1) [1, 2, 3, 7, 8] [] [0, 1] ⟨by omega, Cf.anyP_next hno he24 (by assumption)⟩ (by omega) ⟨(eqi (by omega)), trivial⟩ rfl rfl
              ·
                refine J.co 4 rfl ?_
                refine O.p (Pu.add' rfl rfl (by omega)) rfl ?_
                refine O.oc 2 rfl ?_
                exact J.lq (k + 1) [1, 2, 3] [] [0] ⟨by omega, Cf.okU_next hok he4 (by rw [show k = j from by omega]; exact hno) (by simp only [Cf.right, *, Bool.true_and, Bool.false_and, Bool.and_true, Bool.and_false, decide_true, decide_false, Bool.not_true, Bool.not_false])⟩ (by omega) ⟨(eqi (by omega)), trivial⟩ rfl rfl
  ·
    refine J.co 4 rfl ?_
    refine O.q (Qt.lv 0 A45 rfl rfl rfl) rfl ?_
    refine O.q (Qt.lenM U45 rfl (Src.ro 0 rfl)) rfl ?_
    refine O.oc 3 rfl ?_
    exact J.r0 rfl rfl ⟨(by rw [Cf.callsOk_len hok (by omega) hk]; rfl), rfl⟩

set_option maxRecDepth 100000 in
set_option maxHeartbeats 4000000 in
theorem r28_Check (x0 x1 x2 x3 x4 x5 x6 x7 x8 x9 x10 x11 x12 : Int) (cv : Value) (cs : List Cl) (self services levels : Int) (hl : cs.length ≤ 100000) : Tri Tryz.prog 31 #[.agg #[.int .i64 x0, .int .i64 x1, .int .i64 x2, .int .i64 x3, .int .i64 x4, .int .i64 x5, .int .i64 x6, .int .i64 x7, .int .i64 x8, .int .i64 x9, .int .i64 x10, .int .i64 x11, .int .i64 x12, cv], .int .i64 self, .int .i64 services, .int .i64 levels] [rd cv 4 (cs.map Cl.cells)] [] (fun v L' => v = .int .i64 (Cf.check [x0, x1, x2, x3, x4, x5, x6, x7, x8, x9, x10, x11, x12] cs self services levels) ∧ L' = []) := by
  refine Tri.en F31 rfl K31 rfl fun w0 => ?_
  refine J.co 2 rfl ?_
  refine O.one (Src.ro 0 rfl) (fun hV2 => ?_)
  refine O.l (Lo.bx rfl rfl) rfl ?_
  rintro _ _ ⟨g1, rfl, rfl⟩
  refine O.oo 6 rfl ?_
  refine O.l (Lo.ca C61 (r28_from services 1 8) [] rfl rfl .nil) rfl ?_
  rintro _ _ ⟨_, ⟨rfl, rfl⟩, rfl⟩
  refine O.oo 2 rfl ?_
  refine O.sp 12 rfl (fun h4 => ?_) (fun h4 => ?_)
  ·
    have h5 : (Cf.from_ services 1 8) = false := not_flip h4
    refine O.oc 48 rfl ?_
    exact J.r0 rfl rfl ⟨(by rw [Cf.check_no13 (by simp only [*, Bool.and_true, Bool.and_false, Bool.true_and, Bool.false_and])]; rfl), rfl⟩
  ·
    have h6 : (Cf.from_ services 1 8) = true := not_flip h4
    refine O.oo 2 rfl ?_
    refine O.gq (t := 12) rfl rfl rfl rfl (Pu.qt (Pu.sub' rfl rfl (by have h_ := Cf.from_bnd (by assumption : Cf.from_ services 1 8 = true); omega))) rfl ?_
    refine O.gl (t := 12) rfl rfl rfl rfl (Lo.ca C61 (r28_from self 0 (services - 1)) [] rfl rfl .nil) rfl ?_
    rintro _ _ ⟨_, ⟨rfl, rfl⟩, rfl⟩
    refine O.oo 3 rfl ?_
    refine O.sp 19 rfl (fun h8 => ?_) (fun h8 => ?_)
    ·
      have h9 : (Cf.from_ self 0 (services - 1)) = false := not_flip h8
      refine O.oc 41 rfl ?_
      exact J.r0 rfl rfl ⟨(by rw [Cf.check_no13 (by simp only [*, Bool.and_true, Bool.and_false, Bool.true_and, Bool.false_and])]; rfl), rfl⟩
    ·
      have h10 : (Cf.from_ self 0 (services - 1)) = true := not_flip h8
      refine O.oo 1 rfl ?_
      refine O.gq (t := 19) rfl rfl rfl rfl (Qt.lv 0 A3 rfl rfl rfl) rfl ?_
      refine O.gl (t := 19) rfl rfl rfl rfl (Lo.ca C61 (r28_from x0 1 16) [] rfl rfl .nil) rfl ?_
      rintro _ _ ⟨_, ⟨rfl, rfl⟩, rfl⟩
      refine O.oo 3 rfl ?_
      refine O.sp 25 rfl (fun h12 => ?_) (fun h12 => ?_)
      ·
        have h13 : (Cf.from_ x0 1 16) = false := not_flip h12
        refine O.oc 35 rfl ?_
        exact J.r0 rfl rfl ⟨(by rw [Cf.check_no13 (by simp only [*, Bool.and_true, Bool.and_false, Bool.true_and, Bool.false_and])]; rfl), rfl⟩
      ·
        have h14 : (Cf.from_ x0 1 16) = true := not_flip h12
        refine O.oo 1 rfl ?_
        refine O.gq (t := 25) rfl rfl rfl rfl (Qt.lv 0 A3 rfl rfl rfl) rfl ?_
        refine O.gl (t := 25) rfl rfl rfl rfl (Lo.ca C61 (r28_from x1 1 64) [] rfl rfl .nil) rfl ?_
        rintro _ _ ⟨_, ⟨rfl, rfl⟩, rfl⟩
        refine O.oo 3 rfl ?_
        refine O.sp 31 rfl (fun h16 => ?_) (fun h16 => ?_)
        ·
          have h17 : (Cf.from_ x1 1 64) = false := not_flip h16
          refine O.oc 29 rfl ?_
          exact J.r0 rfl rfl ⟨(by rw [Cf.check_no13 (by simp only [*, Bool.and_true, Bool.and_false, Bool.true_and, Bool.false_and])]; rfl), rfl⟩
        ·
          have h18 : (Cf.from_ x1 1 64) = true := not_flip h16
          refine O.oo 1 rfl ?_
          refine O.gq (t := 31) rfl rfl rfl rfl (Qt.lv 0 A3 rfl rfl rfl) rfl ?_
          refine O.gl (t := 31) rfl rfl rfl rfl (Lo.ca C61 (r28_from x2 1 64) [] rfl rfl .nil) rfl ?_
          rintro _ _ ⟨_, ⟨rfl, rfl⟩, rfl⟩
          refine O.oo 3 rfl ?_
          refine O.sp 37 rfl (fun h20 => ?_) (fun h20 => ?_)
          ·
            have h21 : (Cf.from_ x2 1 64) = false := not_flip h20
            refine O.oc 23 rfl ?_
            exact J.r0 rfl rfl ⟨(by rw [Cf.check_no13 (by simp only [*, Bool.and_true, Bool.and_false, Bool.true_and, Bool.false_and])]; rfl), rfl⟩
          ·
            have h22 : (Cf.from_ x2 1 64) = true := not_flip h20
            refine O.oo 1 rfl ?_
            refine O.gq (t := 37) rfl rfl rfl rfl (Qt.lv 0 A3 rfl rfl rfl) rfl ?_
            refine O.gl (t := 37) rfl rfl rfl rfl (Lo.ca C61 (r28_from x3 0 7) [] rfl rfl .nil) rfl ?_
            rintro _ _ ⟨_, ⟨rfl, rfl⟩, rfl⟩
            refine O.oo 3 rfl ?_
            refine O.sp 43 rfl (fun h24 => ?_) (fun h24 => ?_)
            ·
              have h25 : (Cf.from_ x3 0 7) = false := not_flip h24
              refine O.oc 17 rfl ?_
              exact J.r0 rfl rfl ⟨(by rw [Cf.check_no13 (by simp only [*, Bool.and_true, Bool.and_false, Bool.true_and, Bool.false_and])]; rfl), rfl⟩
            ·
              have h26 : (Cf.from_ x3 0 7) = true := not_flip h24
              refine O.oo 1 rfl ?_
              refine O.gq (t := 43) rfl rfl rfl rfl (Qt.lv 0 A3 rfl rfl rfl) rfl ?_
              refine O.gl (t := 43) rfl rfl rfl rfl (Lo.ca C61 (r28_from x4 0 256) [] rfl rfl .nil) rfl ?_
              rintro _ _ ⟨_, ⟨rfl, rfl⟩, rfl⟩
              refine O.oo 3 rfl ?_
              refine O.sp 49 rfl (fun h28 => ?_) (fun h28 => ?_)
              ·
                have h29 : (Cf.from_ x4 0 256) = false := not_flip h28
                refine O.oc 11 rfl ?_
                exact J.r0 rfl rfl ⟨(by rw [Cf.check_no13 (by simp only [*, Bool.and_true, Bool.and_false, Bool.true_and, Bool.false_and])]; rfl), rfl⟩
              ·
                have h30 : (Cf.from_ x4 0 256) = true := not_flip h28
                refine O.oo 1 rfl ?_
                refine O.gq (t := 49) rfl rfl rfl rfl (Qt.lv 0 A3 rfl rfl rfl) rfl ?_
                refine O.gl (t := 49) rfl rfl rfl rfl (Lo.ca C61 (r28_from x5 0 1099511627776) [] rfl rfl .nil) rfl ?_
                rintro _ _ ⟨_, ⟨rfl, rfl⟩, rfl⟩
                refine O.oc 3 rfl ?_
                refine J.cond rfl (fun h32 => ?_) (fun h32 => ?_)
                ·
                  have h33 : (Cf.from_ x5 0 1099511627776) = false := not_flip h32
                  refine J.cc 4 rfl ?_
                  exact J.r0 rfl rfl ⟨(by rw [Cf.check_no13 (by simp only [*, Bool.and_true, Bool.and_false, Bool.true_and, Bool.false_and])]; rfl), rfl⟩
                ·
                  have h34 : (Cf.from_ x5 0 1099511627776) = true := not_flip h32
                  refine J.co 5 rfl ?_
                  refine O.q (Qt.lva 0 A44 Z44 rfl rfl rfl) rfl ?_
                  refine O.oo 1 rfl ?_
                  refine O.l (Lo.ca C62 (r18_Check x6 x7 x8 x9 x10 x11 x12 levels) [] rfl rfl .nil) rfl ?_
                  rintro _ _ ⟨_, ⟨rfl, rfl⟩, rfl⟩
                  refine O.oo 2 rfl ?_
                  refine O.sd 60 rfl (fun p36 => ?_) (fun p36 => ?_)
                  ·
                    refine O.oc 12 rfl ?_
                    exact J.r0 rfl rfl ⟨(by rw [Cf.check_ten13 (by assumption)]; rfl), rfl⟩
                  ·
                    refine O.gq (t := 60) rfl rfl rfl rfl (Qt.lva 0 A47 Z47 rfl rfl rfl) rfl ?_
                    refine O.oo 2 rfl ?_
                    refine O.gl (t := 60) rfl rfl rfl rfl (Lo.ca C63 (r28_calls x0 x1 x2 x3 x4 x5 x6 x7 x8 x9 x10 x11 x12 cv cs self services (by have h_ := Cf.from_bnd (by assumption : Cf.from_ services 1 8 = true); omega) (by have h_ := Cf.from_bnd (by assumption : Cf.from_ services 1 8 = true); omega) hl) [] rfl rfl (.ro 0 rfl .nil)) rfl ?_
                    rintro _ _ ⟨_, ⟨rfl, rfl⟩, rfl⟩
                    refine O.oc 3 rfl ?_
                    refine J.cond rfl (fun h38 => ?_) (fun h38 => ?_)
                    ·
                      have h39 : (Cf.callsOk cs x3 self services) = false := not_flip h38
                      refine J.cc 4 rfl ?_
                      exact J.r0 rfl rfl ⟨(by rw [Cf.check_no13 (by simp only [*, Bool.and_true, Bool.and_false, Bool.true_and, Bool.false_and])]; rfl), rfl⟩
                    ·
                      have h40 : (Cf.callsOk cs x3 self services) = true := not_flip h38
                      refine J.cc 5 rfl ?_
                      exact J.r0 rfl rfl ⟨(by rw [Cf.check_yes13 (by assumption) (by assumption) (by simp only [*, Bool.and_true]) (by assumption)]; exact congrArg (Value.int .i64) (Eq.symm (Decidable.not_not.1 (by assumption : ¬ Kn.check [x6, x7, x8, x9, x10, x11, x12] levels ≠ 0)))), rfl⟩

end Go.Proofs.YtnhfgnnpbipcnaaGreatDoor
