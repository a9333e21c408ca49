/-
  Walks, printed by a program of mine (lk.py): each function meets its contract.
-/
import Derived.KernelRfl
import Derived.Test.YtnhfgnnpbipcnaaGreatDoorKX1
namespace Go.Proofs.YtnhfgnnpbipcnaaGreatDoor
open Go Go.LK
set_option linter.unusedSimpArgs false

set_option maxRecDepth 100000 in
theorem r18_Of (lv : Value) (l : List Int) (h7 : l.length = 7) : Tri Tryz.prog 23 #[lv] [rd lv 1 (l.map encZ)] [] (fun v L' => v = .agg (l.map vI).toArray ∧ L' = []) := by
  refine Tri.en F23 rfl K23 rfl fun w0 => ?_
  refine J.co 2 rfl ?_
  refine O.l (Lo.al Y44 rfl) rfl ?_
  rintro _ _ ⟨g1, rfl, rfl⟩
  refine O.oc 2 rfl ?_
  refine J.drawTail 22 Tryz.mixed (by kernel_rfl) ?_
  refine S.r 1 rfl ?_
  obtain ⟨e2, he2⟩ := ex_at (l := l) (i := 0) (by omega)
  refine S.q (Qt.idxM U53 Z3 rfl (Src.ro 0 rfl) rfl (by omega) (by omega)) rfl ?_
  refine S.q (Qt.le A3 (Src.ro 0 rfl) he2 0 rfl (by omega) rfl) rfl ?_
  refine S.r 1 rfl ?_
  obtain ⟨e3, he3⟩ := ex_at (l := l) (i := 1) (by omega)
  refine S.q (Qt.idxM U53 Z3 rfl (Src.ro 0 rfl) rfl (by omega) (by omega)) rfl ?_
  refine S.q (Qt.le A3 (Src.ro 0 rfl) he3 0 rfl (by omega) rfl) rfl ?_
  refine S.r 1 rfl ?_
  obtain ⟨e4, he4⟩ := ex_at (l := l) (i := 2) (by omega)
  refine S.q (Qt.idxM U53 Z3 rfl (Src.ro 0 rfl) rfl (by omega) (by omega)) rfl ?_
  refine S.q (Qt.le A3 (Src.ro 0 rfl) he4 0 rfl (by omega) rfl) rfl ?_
  refine S.r 1 rfl ?_
  obtain ⟨e5, he5⟩ := ex_at (l := l) (i := 3) (by omega)
  refine S.q (Qt.idxM U53 Z3 rfl (Src.ro 0 rfl) rfl (by omega) (by omega)) rfl ?_
  refine S.q (Qt.le A3 (Src.ro 0 rfl) he5 0 rfl (by omega) rfl) rfl ?_
  refine S.r 1 rfl ?_
  obtain ⟨e6, he6⟩ := ex_at (l := l) (i := 4) (by omega)
  refine S.q (Qt.idxM U53 Z3 rfl (Src.ro 0 rfl) rfl (by omega) (by omega)) rfl ?_
  refine S.q (Qt.le A3 (Src.ro 0 rfl) he6 0 rfl (by omega) rfl) rfl ?_
  refine S.r 1 rfl ?_
  obtain ⟨e7, he7⟩ := ex_at (l := l) (i := 5) (by omega)
  refine S.q (Qt.idxM U53 Z3 rfl (Src.ro 0 rfl) rfl (by omega) (by omega)) rfl ?_
  refine S.q (Qt.le A3 (Src.ro 0 rfl) he7 0 rfl (by omega) rfl) rfl ?_
  refine S.r 1 rfl ?_
  obtain ⟨e8, he8⟩ := ex_at (l := l) (i := 6) (by omega)
  refine S.q (Qt.idxM U53 Z3 rfl (Src.ro 0 rfl) rfl (by omega) (by omega)) rfl ?_
  refine S.q (Qt.le A3 (Src.ro 0 rfl) he8 0 rfl (by omega) rfl) rfl ?_
  refine S.p (Pu.build [(0, .int .i64 e2), (1, .int .i64 e3), (2, .int .i64 e4), (3, .int .i64 e5), (4, .int .i64 e6), (5, .int .i64 e7), (6, .int .i64 e8)] [.int .i64 e2, .int .i64 e3, .int .i64 e4, .int .i64 e5, .int .i64 e6, .int .i64 e7, .int .i64 e8] #[(0, 1), (1, 1), (2, 1), (3, 1), (4, 1), (5, 1), (6, 1)] U44 Y44 (places44 N44) rfl (by kernel_rfl)) rfl ?_
  refine S.endO ?_
  refine O.l0 (Lo.st 0 Z44 rfl rfl rfl rfl rfl rfl rfl) ?_
  rintro _ _ rfl
  refine O.nil ?_
  exact J.rn [_] [] rfl ⟨⟨_, _, 0, 0, _, rfl, (Cel.var 0 rfl), rfl, (Cut.agg [.int .i64 e2, .int .i64 e3, .int .i64 e4, .int .i64 e5, .int .i64 e6, .int .i64 e7, .int .i64 e8] A44 Z44 rfl rfl)⟩, trivial⟩ rfl ⟨(by rw [Kn.list7 h7 he2 he3 he4 he5 he6 he7 he8]; rfl), rfl⟩

set_option maxRecDepth 100000 in
theorem kn_Check (a b c d e f g : Int) (m : Int) : Tri Tryz.prog 59 #[.agg #[.int .i64 a, .int .i64 b, .int .i64 c, .int .i64 d, .int .i64 e, .int .i64 f, .int .i64 g], .int .i64 m] [] [] (fun v L' => v = .int .i64 (Kn.check [a, b, c, d, e, f, g] m) ∧ L' = []) := by
  refine Tri.en F59 rfl K59 rfl fun w0 => ?_
  refine J.co 2 rfl ?_
  refine O.l (Lo.bx rfl rfl) rfl ?_
  rintro _ _ ⟨g1, rfl, rfl⟩
  refine O.oo 8 rfl ?_
  refine O.sd 11 rfl (fun p2 => ?_) (fun p2 => ?_)
  ·
    refine O.oc 9 rfl ?_
    exact J.r0 rfl rfl ⟨(by rw [Kn.check_no (by omega)]; rfl), rfl⟩
  ·
    refine O.oc 4 rfl ?_
    refine J.cd rfl (fun p3 => ?_) (fun p3 => ?_)
    ·
      refine J.cc 4 rfl ?_
      exact J.r0 rfl rfl ⟨(by rw [Kn.check_no (by omega)]; rfl), rfl⟩
    ·
      refine J.co 4 rfl ?_
      refine O.q (Qt.lv 0 A3 rfl rfl rfl) rfl ?_
      refine O.p (Pu.buildA [(0, .int .i64 0), (1, .int .i64 b)] [.int .i64 0, .int .i64 b] U126 Y126 Z3 rfl (by kernel_rfl)) rfl ?_
      refine O.p (Pu.buildA [(0, .int .i64 0), (1, .int .i64 10000)] [.int .i64 0, .int .i64 10000] U126 Y126 Z3 rfl (by kernel_rfl)) rfl ?_
      refine O.p (Pu.buildA [(0, .int .i64 1), (1, .int .i64 99)] [.int .i64 1, .int .i64 99] U126 Y126 Z3 rfl (by kernel_rfl)) rfl ?_
      refine O.p (Pu.buildA [(0, .int .i64 1), (1, .int .i64 100)] [.int .i64 1, .int .i64 100] U126 Y126 Z3 rfl (by kernel_rfl)) rfl ?_
      refine O.oo 1 rfl ?_
      refine O.p (Pu.buildA [(0, .int .i64 0), (1, .int .i64 m)] [.int .i64 0, .int .i64 m] U126 Y126 Z3 rfl (by kernel_rfl)) rfl ?_
      refine O.p (Pu.buildA [(0, .int .i64 1), (1, .int .i64 32)] [.int .i64 1, .int .i64 32] U126 Y126 Z3 rfl (by kernel_rfl)) rfl ?_
      refine O.p (Pu.buildA [(0, .int .i64 1), (1, .int .i64 32)] [.int .i64 1, .int .i64 32] U126 Y126 Z3 rfl (by kernel_rfl)) rfl ?_
      refine O.p (Pu.buildA [(0, .agg #[.int .i64 0, .int .i64 b]), (1, .agg #[.int .i64 0, .int .i64 10000]), (2, .agg #[.int .i64 1, .int .i64 99]), (3, .agg #[.int .i64 1, .int .i64 100]), (4, .agg #[.int .i64 0, .int .i64 m]), (5, .agg #[.int .i64 1, .int .i64 32]), (6, .agg #[.int .i64 1, .int .i64 32])] [.int .i64 0, .int .i64 b, .int .i64 0, .int .i64 10000, .int .i64 1, .int .i64 99, .int .i64 1, .int .i64 100, .int .i64 0, .int .i64 m, .int .i64 1, .int .i64 32, .int .i64 1, .int .i64 32] U127 Y127 Z126 rfl (by kernel_rfl)) rfl ?_
      refine O.l (Lo.al Y127 rfl) rfl ?_
      rintro _ _ ⟨g4, rfl, rfl⟩
      refine O.l0 (Lo.st 0 Z127 rfl rfl rfl rfl rfl rfl rfl) ?_
      rintro _ _ rfl
      refine O.oo 4 rfl ?_
      refine O.q (Qt.lva 0 A127 Z127 rfl rfl rfl) rfl ?_
      refine O.oc 3 rfl ?_
      refine J.loop (X := Nat) (fun ξ => ξ ≤ 7 ∧ 1 ≤ m ∧ m ≤ 128 ∧ (1 ≤ ξ → 0 ≤ a ∧ a ≤ b) ∧ (2 ≤ ξ → 0 ≤ b ∧ b ≤ 10000) ∧ (3 ≤ ξ → 1 ≤ c ∧ c ≤ 99) ∧ (4 ≤ ξ → 1 ≤ d ∧ d ≤ 100) ∧ (5 ≤ ξ → 0 ≤ e ∧ e ≤ m) ∧ (6 ≤ ξ → 1 ≤ f ∧ f ≤ 32) ∧ (7 ≤ ξ → 1 ≤ g ∧ g ≤ 32)) (fun ξ => [(2, .pointer (some ⟨g1, 0, none⟩)), (26, .agg #[.int .i64 0, .int .i64 b, .int .i64 0, .int .i64 10000, .int .i64 1, .int .i64 99, .int .i64 1, .int .i64 100, .int .i64 0, .int .i64 m, .int .i64 1, .int .i64 32, .int .i64 1, .int .i64 32]), (27, .int .i64 (ξ : Int))]) (fun ξ => [var g1 [.int .i64 a, .int .i64 b, .int .i64 c, .int .i64 d, .int .i64 e, .int .i64 f, .int .i64 g] 44]) (fun ξ => 7 - ξ) 0 (show 0 ≤ 7 ∧ 1 ≤ m ∧ m ≤ 128 ∧ (1 ≤ 0 → 0 ≤ a ∧ a ≤ b) ∧ (2 ≤ 0 → 0 ≤ b ∧ b ≤ 10000) ∧ (3 ≤ 0 → 1 ≤ c ∧ c ≤ 99) ∧ (4 ≤ 0 → 1 ≤ d ∧ d ≤ 100) ∧ (5 ≤ 0 → 0 ≤ e ∧ e ≤ m) ∧ (6 ≤ 0 → 1 ≤ f ∧ f ≤ 32) ∧ (7 ≤ 0 → 1 ≤ g ∧ g ≤ 32) from ⟨by omega, by omega, by omega, by omega, by omega, by omega, by omega, by omega, by omega, by omega⟩) ⟨rfl, rfl, (congrArg (fun z => some (Value.int .i64 z)) (by first | rfl | omega : (0 : Int) = (0 : Int))), trivial⟩ [1] (by decide) rfl ?_
      rintro k hq5
      obtain ⟨hk, hm0, hm1, q1, q2, q3, q4, q5, q6, q7⟩ : k ≤ 7 ∧ 1 ≤ m ∧ m ≤ 128 ∧ (1 ≤ k → 0 ≤ a ∧ a ≤ b) ∧ (2 ≤ k → 0 ≤ b ∧ b ≤ 10000) ∧ (3 ≤ k → 1 ≤ c ∧ c ≤ 99) ∧ (4 ≤ k → 1 ≤ d ∧ d ≤ 100) ∧ (5 ≤ k → 0 ≤ e ∧ e ≤ m) ∧ (6 ≤ k → 1 ≤ f ∧ f ≤ 32) ∧ (7 ≤ k → 1 ≤ g ∧ g ≤ 32) := hq5
      show J _ _ [(2, .pointer (some ⟨g1, 0, none⟩)), (26, .agg #[.int .i64 0, .int .i64 b, .int .i64 0, .int .i64 10000, .int .i64 1, .int .i64 99, .int .i64 1, .int .i64 100, .int .i64 0, .int .i64 m, .int .i64 1, .int .i64 32, .int .i64 1, .int .i64 32]), (27, .int .i64 (k : Int))] [var g1 [.int .i64 a, .int .i64 b, .int .i64 c, .int .i64 d, .int .i64 e, .int .i64 f, .int .i64 g] 44]
      obtain rfl | rfl | rfl | rfl | rfl | rfl | rfl | rfl : k = 0 ∨ k = 1 ∨ k = 2 ∨ k = 3 ∨ k = 4 ∨ k = 5 ∨ k = 6 ∨ k = 7 := by omega
      ·
        show J _ _ [(2, .pointer (some ⟨g1, 0, none⟩)), (26, .agg #[.int .i64 0, .int .i64 b, .int .i64 0, .int .i64 10000, .int .i64 1, .int .i64 99, .int .i64 1, .int .i64 100, .int .i64 0, .int .i64 m, .int .i64 1, .int .i64 32, .int .i64 1, .int .i64 32]), (27, .int .i64 0)] [var g1 [.int .i64 a, .int .i64 b, .int .i64 c, .int .i64 d, .int .i64 e, .int .i64 f, .int .i64 g] 44]
        refine J.co 12 rfl ?_
        refine O.p (Pu.indexK (cs := [.int .i64 0, .int .i64 b, .int .i64 0, .int .i64 10000, .int .i64 1, .int .i64 99, .int .i64 1, .int .i64 100, .int .i64 0, .int .i64 m, .int .i64 1, .int .i64 32, .int .i64 1, .int .i64 32]) [.int .i64 0, .int .i64 b] U127 Z126 A126 rfl rfl (by decide) (by decide) rfl) rfl ?_
        refine O.l (Lo.al Y126 rfl) rfl ?_
        rintro _ _ ⟨g6, rfl, rfl⟩
        refine O.oo 1 rfl ?_
        refine O.l0 (Lo.st 0 Z126 rfl rfl rfl rfl rfl rfl rfl) ?_
        rintro _ _ rfl
        refine O.oo 4 rfl ?_
        refine O.l (Lo.ca C96 (kn_field g1 0 (by omega) (by omega)) [] rfl rfl .nil) rfl ?_
        rintro _ _ ⟨_, ⟨rfl, rfl⟩, rfl⟩
        refine O.oo 1 rfl ?_
        refine O.q (Qt.lv 1 A3 rfl rfl rfl) rfl ?_
        refine O.oo 5 rfl ?_
        refine O.p (Pu.indexAddrK 0 U126 Z3 rfl rfl (by decide) (by decide) rfl) rfl ?_
        refine O.q (Qt.lv 0 A3 rfl rfl rfl) rfl ?_
        refine O.oo 2 rfl ?_
        refine O.sd 39 rfl (fun p8 => ?_) (fun p8 => ?_)
        ·
          refine O.oc 11 rfl ?_
          exact J.r0 rfl rfl ⟨(by rw [Kn.check_no (by omega)]; rfl), rfl⟩
        ·
          refine O.oo 1 rfl ?_
          refine O.gq (t := 39) rfl rfl rfl rfl (Pu.qt (Pu.indexAddrK 1 U126 Z3 rfl rfl (by decide) (by decide) rfl)) rfl ?_
          refine O.gq (t := 39) rfl rfl rfl rfl (Qt.lv 0 A3 rfl rfl rfl) rfl ?_
          refine O.oc 3 rfl ?_
          refine J.cd rfl (fun p9 => ?_) (fun p9 => ?_)
          ·
            refine J.cc 4 rfl ?_
            exact J.r0 rfl rfl ⟨(by rw [Kn.check_no (by omega)]; rfl), rfl⟩
          ·
            refine J.co 3 rfl ?_
            refine O.p (Pu.add' rfl rfl (by omega)) rfl ?_
            refine O.oc 2 rfl ?_
            exact J.lp 1 (show 1 ≤ 7 ∧ 1 ≤ m ∧ m ≤ 128 ∧ (1 ≤ 1 → 0 ≤ a ∧ a ≤ b) ∧ (2 ≤ 1 → 0 ≤ b ∧ b ≤ 10000) ∧ (3 ≤ 1 → 1 ≤ c ∧ c ≤ 99) ∧ (4 ≤ 1 → 1 ≤ d ∧ d ≤ 100) ∧ (5 ≤ 1 → 0 ≤ e ∧ e ≤ m) ∧ (6 ≤ 1 → 1 ≤ f ∧ f ≤ 32) ∧ (7 ≤ 1 → 1 ≤ g ∧ g ≤ 32) from ⟨by omega, by omega, by omega, by omega, by omega, by omega, by omega, by omega, by omega, by omega⟩) (show 7 - 1 < 7 - 0 from (by omega)) ⟨rfl, rfl, (congrArg (fun z => some (Value.int .i64 z)) (by first | rfl | omega : (0 + 1 : Int) = (1 : Int))), trivial⟩ [1] (by decide) rfl
      ·
        show J _ _ [(2, .pointer (some ⟨g1, 0, none⟩)), (26, .agg #[.int .i64 0, .int .i64 b, .int .i64 0, .int .i64 10000, .int .i64 1, .int .i64 99, .int .i64 1, .int .i64 100, .int .i64 0, .int .i64 m, .int .i64 1, .int .i64 32, .int .i64 1, .int .i64 32]), (27, .int .i64 1)] [var g1 [.int .i64 a, .int .i64 b, .int .i64 c, .int .i64 d, .int .i64 e, .int .i64 f, .int .i64 g] 44]
        refine J.co 12 rfl ?_
        refine O.p (Pu.indexK (cs := [.int .i64 0, .int .i64 b, .int .i64 0, .int .i64 10000, .int .i64 1, .int .i64 99, .int .i64 1, .int .i64 100, .int .i64 0, .int .i64 m, .int .i64 1, .int .i64 32, .int .i64 1, .int .i64 32]) [.int .i64 0, .int .i64 10000] U127 Z126 A126 rfl rfl (by decide) (by decide) rfl) rfl ?_
        refine O.l (Lo.al Y126 rfl) rfl ?_
        rintro _ _ ⟨g10, rfl, rfl⟩
        refine O.oo 1 rfl ?_
        refine O.l0 (Lo.st 0 Z126 rfl rfl rfl rfl rfl rfl rfl) ?_
        rintro _ _ rfl
        refine O.oo 4 rfl ?_
        refine O.l (Lo.ca C96 (kn_field g1 1 (by omega) (by omega)) [] rfl rfl .nil) rfl ?_
        rintro _ _ ⟨_, ⟨rfl, rfl⟩, rfl⟩
        refine O.oo 1 rfl ?_
        refine O.q (Qt.lv 1 A3 rfl rfl rfl) rfl ?_
        refine O.oo 5 rfl ?_
        refine O.p (Pu.indexAddrK 0 U126 Z3 rfl rfl (by decide) (by decide) rfl) rfl ?_
        refine O.q (Qt.lv 0 A3 rfl rfl rfl) rfl ?_
        refine O.oo 2 rfl ?_
        refine O.sd 39 rfl (fun p12 => ?_) (fun p12 => ?_)
        ·
          refine O.oc 11 rfl ?_
          exact J.r0 rfl rfl ⟨(by rw [Kn.check_no (by omega)]; rfl), rfl⟩
        ·
          refine O.oo 1 rfl ?_
          refine O.gq (t := 39) rfl rfl rfl rfl (Pu.qt (Pu.indexAddrK 1 U126 Z3 rfl rfl (by decide) (by decide) rfl)) rfl ?_
          refine O.gq (t := 39) rfl rfl rfl rfl (Qt.lv 0 A3 rfl rfl rfl) rfl ?_
          refine O.oc 3 rfl ?_
          refine J.cd rfl (fun p13 => ?_) (fun p13 => ?_)
          ·
            refine J.cc 4 rfl ?_
            exact J.r0 rfl rfl ⟨(by rw [Kn.check_no (by omega)]; rfl), rfl⟩
          ·
            refine J.co 3 rfl ?_
            refine O.p (Pu.add' rfl rfl (by omega)) rfl ?_
            refine O.oc 2 rfl ?_
            exact J.lp 2 (show 2 ≤ 7 ∧ 1 ≤ m ∧ m ≤ 128 ∧ (1 ≤ 2 → 0 ≤ a ∧ a ≤ b) ∧ (2 ≤ 2 → 0 ≤ b ∧ b ≤ 10000) ∧ (3 ≤ 2 → 1 ≤ c ∧ c ≤ 99) ∧ (4 ≤ 2 → 1 ≤ d ∧ d ≤ 100) ∧ (5 ≤ 2 → 0 ≤ e ∧ e ≤ m) ∧ (6 ≤ 2 → 1 ≤ f ∧ f ≤ 32) ∧ (7 ≤ 2 → 1 ≤ g ∧ g ≤ 32) from ⟨by omega, by omega, by omega, by omega, by omega, by omega, by omega, by omega, by omega, by omega⟩) (show 7 - 2 < 7 - 1 from (by omega)) ⟨rfl, rfl, (congrArg (fun z => some (Value.int .i64 z)) (by first | rfl | omega : (1 + 1 : Int) = (2 : Int))), trivial⟩ [1] (by decide) rfl
      ·
        show J _ _ [(2, .pointer (some ⟨g1, 0, none⟩)), (26, .agg #[.int .i64 0, .int .i64 b, .int .i64 0, .int .i64 10000, .int .i64 1, .int .i64 99, .int .i64 1, .int .i64 100, .int .i64 0, .int .i64 m, .int .i64 1, .int .i64 32, .int .i64 1, .int .i64 32]), (27, .int .i64 2)] [var g1 [.int .i64 a, .int .i64 b, .int .i64 c, .int .i64 d, .int .i64 e, .int .i64 f, .int .i64 g] 44]
        refine J.co 12 rfl ?_
        refine O.p (Pu.indexK (cs := [.int .i64 0, .int .i64 b, .int .i64 0, .int .i64 10000, .int .i64 1, .int .i64 99, .int .i64 1, .int .i64 100, .int .i64 0, .int .i64 m, .int .i64 1, .int .i64 32, .int .i64 1, .int .i64 32]) [.int .i64 1, .int .i64 99] U127 Z126 A126 rfl rfl (by decide) (by decide) rfl) rfl ?_
        refine O.l (Lo.al Y126 rfl) rfl ?_
        rintro _ _ ⟨g14, rfl, rfl⟩
        refine O.oo 1 rfl ?_
        refine O.l0 (Lo.st 0 Z126 rfl rfl rfl rfl rfl rfl rfl) ?_
        rintro _ _ rfl
        refine O.oo 4 rfl ?_
        refine O.l (Lo.ca C96 (kn_field g1 2 (by omega) (by omega)) [] rfl rfl .nil) rfl ?_
        rintro _ _ ⟨_, ⟨rfl, rfl⟩, rfl⟩
        refine O.oo 1 rfl ?_
        refine O.q (Qt.lv 1 A3 rfl rfl rfl) rfl ?_
        refine O.oo 5 rfl ?_
        refine O.p (Pu.indexAddrK 0 U126 Z3 rfl rfl (by decide) (by decide) rfl) rfl ?_
        refine O.q (Qt.lv 0 A3 rfl rfl rfl) rfl ?_
        refine O.oo 2 rfl ?_
        refine O.sd 39 rfl (fun p16 => ?_) (fun p16 => ?_)
        ·
          refine O.oc 11 rfl ?_
          exact J.r0 rfl rfl ⟨(by rw [Kn.check_no (by omega)]; rfl), rfl⟩
        ·
          refine O.oo 1 rfl ?_
          refine O.gq (t := 39) rfl rfl rfl rfl (Pu.qt (Pu.indexAddrK 1 U126 Z3 rfl rfl (by decide) (by decide) rfl)) rfl ?_
          refine O.gq (t := 39) rfl rfl rfl rfl (Qt.lv 0 A3 rfl rfl rfl) rfl ?_
          refine O.oc 3 rfl ?_
          refine J.cd rfl (fun p17 => ?_) (fun p17 => ?_)
          ·
            refine J.cc 4 rfl ?_
            exact J.r0 rfl rfl ⟨(by rw [Kn.check_no (by omega)]; rfl), rfl⟩
          ·
            refine J.co 3 rfl ?_
            refine O.p (Pu.add' rfl rfl (by omega)) rfl ?_
            refine O.oc 2 rfl ?_
            exact J.lp 3 (show 3 ≤ 7 ∧ 1 ≤ m ∧ m ≤ 128 ∧ (1 ≤ 3 → 0 ≤ a ∧ a ≤ b) ∧ (2 ≤ 3 → 0 ≤ b ∧ b ≤ 10000) ∧ (3 ≤ 3 → 1 ≤ c ∧ c ≤ 99) ∧ (4 ≤ 3 → 1 ≤ d ∧ d ≤ 100) ∧ (5 ≤ 3 → 0 ≤ e ∧ e ≤ m) ∧ (6 ≤ 3 → 1 ≤ f ∧ f ≤ 32) ∧ (7 ≤ 3 → 1 ≤ g ∧ g ≤ 32) from ⟨by omega, by omega, by omega, by omega, by omega, by omega, by omega, by omega, by omega, by omega⟩) (show 7 - 3 < 7 - 2 from (by omega)) ⟨rfl, rfl, (congrArg (fun z => some (Value.int .i64 z)) (by first | rfl | omega : (2 + 1 : Int) = (3 : Int))), trivial⟩ [1] (by decide) rfl
      ·
        show J _ _ [(2, .pointer (some ⟨g1, 0, none⟩)), (26, .agg #[.int .i64 0, .int .i64 b, .int .i64 0, .int .i64 10000, .int .i64 1, .int .i64 99, .int .i64 1, .int .i64 100, .int .i64 0, .int .i64 m, .int .i64 1, .int .i64 32, .int .i64 1, .int .i64 32]), (27, .int .i64 3)] [var g1 [.int .i64 a, .int .i64 b, .int .i64 c, .int .i64 d, .int .i64 e, .int .i64 f, .int .i64 g] 44]
        refine J.co 12 rfl ?_
        refine O.p (Pu.indexK (cs := [.int .i64 0, .int .i64 b, .int .i64 0, .int .i64 10000, .int .i64 1, .int .i64 99, .int .i64 1, .int .i64 100, .int .i64 0, .int .i64 m, .int .i64 1, .int .i64 32, .int .i64 1, .int .i64 32]) [.int .i64 1, .int .i64 100] U127 Z126 A126 rfl rfl (by decide) (by decide) rfl) rfl ?_
        refine O.l (Lo.al Y126 rfl) rfl ?_
        rintro _ _ ⟨g18, rfl, rfl⟩
        refine O.oo 1 rfl ?_
        refine O.l0 (Lo.st 0 Z126 rfl rfl rfl rfl rfl rfl rfl) ?_
        rintro _ _ rfl
        refine O.oo 4 rfl ?_
        refine O.l (Lo.ca C96 (kn_field g1 3 (by omega) (by omega)) [] rfl rfl .nil) rfl ?_
        rintro _ _ ⟨_, ⟨rfl, rfl⟩, rfl⟩
        refine O.oo 1 rfl ?_
        refine O.q (Qt.lv 1 A3 rfl rfl rfl) rfl ?_
        refine O.oo 5 rfl ?_
        refine O.p (Pu.indexAddrK 0 U126 Z3 rfl rfl (by decide) (by decide) rfl) rfl ?_
        refine O.q (Qt.lv 0 A3 rfl rfl rfl) rfl ?_
        refine O.oo 2 rfl ?_
        refine O.sd 39 rfl (fun p20 => ?_) (fun p20 => ?_)
        ·
          refine O.oc 11 rfl ?_
          exact J.r0 rfl rfl ⟨(by rw [Kn.check_no (by omega)]; rfl), rfl⟩
        ·
          refine O.oo 1 rfl ?_
          refine O.gq (t := 39) rfl rfl rfl rfl (Pu.qt (Pu.indexAddrK 1 U126 Z3 rfl rfl (by decide) (by decide) rfl)) rfl ?_
          refine O.gq (t := 39) rfl rfl rfl rfl (Qt.lv 0 A3 rfl rfl rfl) rfl ?_
          refine O.oc 3 rfl ?_
          refine J.cd rfl (fun p21 => ?_) (fun p21 => ?_)
          ·
            refine J.cc 4 rfl ?_
            exact J.r0 rfl rfl ⟨(by rw [Kn.check_no (by omega)]; rfl), rfl⟩
          ·
            refine J.co 3 rfl ?_
            refine O.p (Pu.add' rfl rfl (by omega)) rfl ?_
            refine O.oc 2 rfl ?_
            exact J.lp 4 (show 4 ≤ 7 ∧ 1 ≤ m ∧ m ≤ 128 ∧ (1 ≤ 4 → 0 ≤ a ∧ a ≤ b) ∧ (2 ≤ 4 → 0 ≤ b ∧ b ≤ 10000) ∧ (3 ≤ 4 → 1 ≤ c ∧ c ≤ 99) ∧ (4 ≤ 4 → 1 ≤ d ∧ d ≤ 100) ∧ (5 ≤ 4 → 0 ≤ e ∧ e ≤ m) ∧ (6 ≤ 4 → 1 ≤ f ∧ f ≤ 32) ∧ (7 ≤ 4 → 1 ≤ g ∧ g ≤ 32) from ⟨by omega, by omega, by omega, by omega, by omega, by omega, by omega, by omega, by omega, by omega⟩) (show 7 - 4 < 7 - 3 from (by omega)) ⟨rfl, rfl, (congrArg (fun z => some (Value.int .i64 z)) (by first | rfl | omega : (3 + 1 : Int) = (4 : Int))), trivial⟩ [1] (by decide) rfl
      ·
        show J _ _ [(2, .pointer (some ⟨g1, 0, none⟩)), (26, .agg #[.int .i64 0, .int .i64 b, .int .i64 0, .int .i64 10000, .int .i64 1, .int .i64 99, .int .i64 1, .int .i64 100, .int .i64 0, .int .i64 m, .int .i64 1, .int .i64 32, .int .i64 1, .int .i64 32]), (27, .int .i64 4)] [var g1 [.int .i64 a, .int .i64 b, .int .i64 c, .int .i64 d, .int .i64 e, .int .i64 f, .int .i64 g] 44]
        refine J.co 12 rfl ?_
        refine O.p (Pu.indexK (cs := [.int .i64 0, .int .i64 b, .int .i64 0, .int .i64 10000, .int .i64 1, .int .i64 99, .int .i64 1, .int .i64 100, .int .i64 0, .int .i64 m, .int .i64 1, .int .i64 32, .int .i64 1, .int .i64 32]) [.int .i64 0, .int .i64 m] U127 Z126 A126 rfl rfl (by decide) (by decide) rfl) rfl ?_
        refine O.l (Lo.al Y126 rfl) rfl ?_
        rintro _ _ ⟨g22, rfl, rfl⟩
        refine O.oo 1 rfl ?_
        refine O.l0 (Lo.st 0 Z126 rfl rfl rfl rfl rfl rfl rfl) ?_
        rintro _ _ rfl
        refine O.oo 4 rfl ?_
        refine O.l (Lo.ca C96 (kn_field g1 4 (by omega) (by omega)) [] rfl rfl .nil) rfl ?_
        rintro _ _ ⟨_, ⟨rfl, rfl⟩, rfl⟩
        refine O.oo 1 rfl ?_
        refine O.q (Qt.lv 1 A3 rfl rfl rfl) rfl ?_
        refine O.oo 5 rfl ?_
        refine O.p (Pu.indexAddrK 0 U126 Z3 rfl rfl (by decide) (by decide) rfl) rfl ?_
        refine O.q (Qt.lv 0 A3 rfl rfl rfl) rfl ?_
        refine O.oo 2 rfl ?_
        refine O.sd 39 rfl (fun p24 => ?_) (fun p24 => ?_)
        ·
          refine O.oc 11 rfl ?_
          exact J.r0 rfl rfl ⟨(by rw [Kn.check_no (by omega)]; rfl), rfl⟩
        ·
          refine O.oo 1 rfl ?_
          refine O.gq (t := 39) rfl rfl rfl rfl (Pu.qt (Pu.indexAddrK 1 U126 Z3 rfl rfl (by decide) (by decide) rfl)) rfl ?_
          refine O.gq (t := 39) rfl rfl rfl rfl (Qt.lv 0 A3 rfl rfl rfl) rfl ?_
          refine O.oc 3 rfl ?_
          refine J.cd rfl (fun p25 => ?_) (fun p25 => ?_)
          ·
            refine J.cc 4 rfl ?_
            exact J.r0 rfl rfl ⟨(by rw [Kn.check_no (by omega)]; rfl), rfl⟩
          ·
            refine J.co 3 rfl ?_
            refine O.p (Pu.add' rfl rfl (by omega)) rfl ?_
            refine O.oc 2 rfl ?_
            exact J.lp 5 (show 5 ≤ 7 ∧ 1 ≤ m ∧ m ≤ 128 ∧ (1 ≤ 5 → 0 ≤ a ∧ a ≤ b) ∧ (2 ≤ 5 → 0 ≤ b ∧ b ≤ 10000) ∧ (3 ≤ 5 → 1 ≤ c ∧ c ≤ 99) ∧ (4 ≤ 5 → 1 ≤ d ∧ d ≤ 100) ∧ (5 ≤ 5 → 0 ≤ e ∧ e ≤ m) ∧ (6 ≤ 5 → 1 ≤ f ∧ f ≤ 32) ∧ (7 ≤ 5 → 1 ≤ g ∧ g ≤ 32) from ⟨by omega, by omega, by omega, by omega, by omega, by omega, by omega, by omega, by omega, by omega⟩) (show 7 - 5 < 7 - 4 from (by omega)) ⟨rfl, rfl, (congrArg (fun z => some (Value.int .i64 z)) (by first | rfl | omega : (4 + 1 : Int) = (5 : Int))), trivial⟩ [1] (by decide) rfl
      ·
        show J _ _ [(2, .pointer (some ⟨g1, 0, none⟩)), (26, .agg #[.int .i64 0, .int .i64 b, .int .i64 0, .int .i64 10000, .int .i64 1, .int .i64 99, .int .i64 1, .int .i64 100, .int .i64 0, .int .i64 m, .int .i64 1, .int .i64 32, .int .i64 1, .int .i64 32]), (27, .int .i64 5)] [var g1 [.int .i64 a, .int .i64 b, .int .i64 c, .int .i64 d, .int .i64 e, .int .i64 f, .int .i64 g] 44]
        refine J.co 12 rfl ?_
        refine O.p (Pu.indexK (cs := [.int .i64 0, .int .i64 b, .int .i64 0, .int .i64 10000, .int .i64 1, .int .i64 99, .int .i64 1, .int .i64 100, .int .i64 0, .int .i64 m, .int .i64 1, .int .i64 32, .int .i64 1, .int .i64 32]) [.int .i64 1, .int .i64 32] U127 Z126 A126 rfl rfl (by decide) (by decide) rfl) rfl ?_
        refine O.l (Lo.al Y126 rfl) rfl ?_
        rintro _ _ ⟨g26, rfl, rfl⟩
        refine O.oo 1 rfl ?_
        refine O.l0 (Lo.st 0 Z126 rfl rfl rfl rfl rfl rfl rfl) ?_
        rintro _ _ rfl
        refine O.oo 4 rfl ?_
        refine O.l (Lo.ca C96 (kn_field g1 5 (by omega) (by omega)) [] rfl rfl .nil) rfl ?_
        rintro _ _ ⟨_, ⟨rfl, rfl⟩, rfl⟩
        refine O.oo 1 rfl ?_
        refine O.q (Qt.lv 1 A3 rfl rfl rfl) rfl ?_
        refine O.oo 5 rfl ?_
        refine O.p (Pu.indexAddrK 0 U126 Z3 rfl rfl (by decide) (by decide) rfl) rfl ?_
        refine O.q (Qt.lv 0 A3 rfl rfl rfl) rfl ?_
        refine O.oo 2 rfl ?_
        refine O.sd 39 rfl (fun p28 => ?_) (fun p28 => ?_)
        ·
          refine O.oc 11 rfl ?_
          exact J.r0 rfl rfl ⟨(by rw [Kn.check_no (by omega)]; rfl), rfl⟩
        ·
          refine O.oo 1 rfl ?_
          refine O.gq (t := 39) rfl rfl rfl rfl (Pu.qt (Pu.indexAddrK 1 U126 Z3 rfl rfl (by decide) (by decide) rfl)) rfl ?_
          refine O.gq (t := 39) rfl rfl rfl rfl (Qt.lv 0 A3 rfl rfl rfl) rfl ?_
          refine O.oc 3 rfl ?_
          refine J.cd rfl (fun p29 => ?_) (fun p29 => ?_)
          ·
            refine J.cc 4 rfl ?_
            exact J.r0 rfl rfl ⟨(by rw [Kn.check_no (by omega)]; rfl), rfl⟩
          ·
            refine J.co 3 rfl ?_
            refine O.p (Pu.add' rfl rfl (by omega)) rfl ?_
            refine O.oc 2 rfl ?_
            exact J.lp 6 (show 6 ≤ 7 ∧ 1 ≤ m ∧ m ≤ 128 ∧ (1 ≤ 6 → 0 ≤ a ∧ a ≤ b) ∧ (2 ≤ 6 → 0 ≤ b ∧ b ≤ 10000) ∧ (3 ≤ 6 → 1 ≤ c ∧ c ≤ 99) ∧ (4 ≤ 6 → 1 ≤ d ∧ d ≤ 100) ∧ (5 ≤ 6 → 0 ≤ e ∧ e ≤ m) ∧ (6 ≤ 6 → 1 ≤ f ∧ f ≤ 32) ∧ (7 ≤ 6 → 1 ≤ g ∧ g ≤ 32) from ⟨by omega, by omega, by omega, by omega, by omega, by omega, by omega, by omega, by omega, by omega⟩) (show 7 - 6 < 7 - 5 from (by omega)) ⟨rfl, rfl, (congrArg (fun z => some (Value.int .i64 z)) (by first | rfl | omega : (5 + 1 : Int) = (6 : Int))), trivial⟩ [1] (by decide) rfl
      ·
        show J _ _ [(2, .pointer (some ⟨g1, 0, none⟩)), (26, .agg #[.int .i64 0, .int .i64 b, .int .i64 0, .int .i64 10000, .int .i64 1, .int .i64 99, .int .i64 1, .int .i64 100, .int .i64 0, .int .i64 m, .int .i64 1, .int .i64 32, .int .i64 1, .int .i64 32]), (27, .int .i64 6)] [var g1 [.int .i64 a, .int .i64 b, .int .i64 c, .int .i64 d, .int .i64 e, .int .i64 f, .int .i64 g] 44]
        refine J.co 12 rfl ?_
        refine O.p (Pu.indexK (cs := [.int .i64 0, .int .i64 b, .int .i64 0, .int .i64 10000, .int .i64 1, .int .i64 99, .int .i64 1, .int .i64 100, .int .i64 0, .int .i64 m, .int .i64 1, .int .i64 32, .int .i64 1, .int .i64 32]) [.int .i64 1, .int .i64 32] U127 Z126 A126 rfl rfl (by decide) (by decide) rfl) rfl ?_
        refine O.l (Lo.al Y126 rfl) rfl ?_
        rintro _ _ ⟨g30, rfl, rfl⟩
        refine O.oo 1 rfl ?_
        refine O.l0 (Lo.st 0 Z126 rfl rfl rfl rfl rfl rfl rfl) ?_
        rintro _ _ rfl
        refine O.oo 4 rfl ?_
        refine O.l (Lo.ca C96 (kn_field g1 6 (by omega) (by omega)) [] rfl rfl .nil) rfl ?_
        rintro _ _ ⟨_, ⟨rfl, rfl⟩, rfl⟩
        refine O.oo 1 rfl ?_
        refine O.q (Qt.lv 1 A3 rfl rfl rfl) rfl ?_
        refine O.oo 5 rfl ?_
        refine O.p (Pu.indexAddrK 0 U126 Z3 rfl rfl (by decide) (by decide) rfl) rfl ?_
        refine O.q (Qt.lv 0 A3 rfl rfl rfl) rfl ?_
        refine O.oo 2 rfl ?_
        refine O.sd 39 rfl (fun p32 => ?_) (fun p32 => ?_)
        ·
          refine O.oc 11 rfl ?_
          exact J.r0 rfl rfl ⟨(by rw [Kn.check_no (by omega)]; rfl), rfl⟩
        ·
          refine O.oo 1 rfl ?_
          refine O.gq (t := 39) rfl rfl rfl rfl (Pu.qt (Pu.indexAddrK 1 U126 Z3 rfl rfl (by decide) (by decide) rfl)) rfl ?_
          refine O.gq (t := 39) rfl rfl rfl rfl (Qt.lv 0 A3 rfl rfl rfl) rfl ?_
          refine O.oc 3 rfl ?_
          refine J.cd rfl (fun p33 => ?_) (fun p33 => ?_)
          ·
            refine J.cc 4 rfl ?_
            exact J.r0 rfl rfl ⟨(by rw [Kn.check_no (by omega)]; rfl), rfl⟩
          ·
            refine J.co 3 rfl ?_
            refine O.p (Pu.add' rfl rfl (by omega)) rfl ?_
            refine O.oc 2 rfl ?_
            exact J.lp 7 (show 7 ≤ 7 ∧ 1 ≤ m ∧ m ≤ 128 ∧ (1 ≤ 7 → 0 ≤ a ∧ a ≤ b) ∧ (2 ≤ 7 → 0 ≤ b ∧ b ≤ 10000) ∧ (3 ≤ 7 → 1 ≤ c ∧ c ≤ 99) ∧ (4 ≤ 7 → 1 ≤ d ∧ d ≤ 100) ∧ (5 ≤ 7 → 0 ≤ e ∧ e ≤ m) ∧ (6 ≤ 7 → 1 ≤ f ∧ f ≤ 32) ∧ (7 ≤ 7 → 1 ≤ g ∧ g ≤ 32) from ⟨by omega, by omega, by omega, by omega, by omega, by omega, by omega, by omega, by omega, by omega⟩) (show 7 - 7 < 7 - 6 from (by omega)) ⟨rfl, rfl, (congrArg (fun z => some (Value.int .i64 z)) (by first | rfl | omega : (6 + 1 : Int) = (7 : Int))), trivial⟩ [1] (by decide) rfl
      ·
        show J _ _ [(2, .pointer (some ⟨g1, 0, none⟩)), (26, .agg #[.int .i64 0, .int .i64 b, .int .i64 0, .int .i64 10000, .int .i64 1, .int .i64 99, .int .i64 1, .int .i64 100, .int .i64 0, .int .i64 m, .int .i64 1, .int .i64 32, .int .i64 1, .int .i64 32]), (27, .int .i64 7)] [var g1 [.int .i64 a, .int .i64 b, .int .i64 c, .int .i64 d, .int .i64 e, .int .i64 f, .int .i64 g] 44]
        refine J.cc 11 rfl ?_
        exact J.r0 rfl rfl ⟨(by rw [Kn.check_yes (by omega)]; rfl), rfl⟩

set_option maxRecDepth 100000 in
set_option maxHeartbeats 4000000 in
theorem r18_Check (a b c d e f g : Int) (m : Int) : Tri Tryz.prog 62 #[.agg #[.int .i64 a, .int .i64 b, .int .i64 c, .int .i64 d, .int .i64 e, .int .i64 f, .int .i64 g], .int .i64 m] [] [] (fun v L' => v = .int .i64 (Kn.check [a, b, c, d, e, f, g] m) ∧ L' = []) := by
  refine Tri.en F62 rfl K62 rfl fun w0 => ?_
  refine J.co 2 rfl ?_
  refine O.l (Lo.bx rfl rfl) rfl ?_
  rintro _ _ ⟨g1, rfl, rfl⟩
  refine O.oo 8 rfl ?_
  refine O.sd 7 rfl (fun p2 => ?_) (fun p2 => ?_)
  ·
    refine O.oc 46 rfl ?_
    exact J.r0 rfl rfl ⟨(by rw [Kn.check_no (by omega)]; rfl), rfl⟩
  ·
    refine O.oo 4 rfl ?_
    refine O.sd 11 rfl (fun p3 => ?_) (fun p3 => ?_)
    ·
      refine O.oc 42 rfl ?_
      exact J.r0 rfl rfl ⟨(by rw [Kn.check_no (by omega)]; rfl), rfl⟩
    ·
      refine O.oo 1 rfl ?_
      refine O.gq (t := 11) rfl rfl rfl rfl (Qt.lv 0 A3 rfl rfl rfl) rfl ?_
      refine O.oo 3 rfl ?_
      refine O.sd 16 rfl (fun p4 => ?_) (fun p4 => ?_)
      ·
        refine O.oc 37 rfl ?_
        exact J.r0 rfl rfl ⟨(by rw [Kn.check_no (by omega)]; rfl), rfl⟩
      ·
        refine O.oo 1 rfl ?_
        refine O.gq (t := 16) rfl rfl rfl rfl (Qt.lv 0 A3 rfl rfl rfl) rfl ?_
        refine O.oo 1 rfl ?_
        refine O.gq (t := 16) rfl rfl rfl rfl (Qt.lv 0 A3 rfl rfl rfl) rfl ?_
        refine O.oo 3 rfl ?_
        refine O.sd 23 rfl (fun p5 => ?_) (fun p5 => ?_)
        ·
          refine O.oc 30 rfl ?_
          exact J.r0 rfl rfl ⟨(by rw [Kn.check_no (by omega)]; rfl), rfl⟩
        ·
          refine O.oo 1 rfl ?_
          refine O.gq (t := 23) rfl rfl rfl rfl (Qt.lv 0 A3 rfl rfl rfl) rfl ?_
          refine O.oo 3 rfl ?_
          refine O.sd 28 rfl (fun p6 => ?_) (fun p6 => ?_)
          ·
            refine O.oc 25 rfl ?_
            exact J.r0 rfl rfl ⟨(by rw [Kn.check_no (by omega)]; rfl), rfl⟩
          ·
            refine O.oo 1 rfl ?_
            refine O.gq (t := 28) rfl rfl rfl rfl (Qt.lv 0 A3 rfl rfl rfl) rfl ?_
            refine O.oo 3 rfl ?_
            refine O.sd 33 rfl (fun p7 => ?_) (fun p7 => ?_)
            ·
              refine O.oc 20 rfl ?_
              exact J.r0 rfl rfl ⟨(by rw [Kn.check_no (by omega)]; rfl), rfl⟩
            ·
              refine O.oo 1 rfl ?_
              refine O.gq (t := 33) rfl rfl rfl rfl (Qt.lv 0 A3 rfl rfl rfl) rfl ?_
              refine O.oo 3 rfl ?_
              refine O.sd 38 rfl (fun p8 => ?_) (fun p8 => ?_)
              ·
                refine O.oc 15 rfl ?_
                exact J.r0 rfl rfl ⟨(by rw [Kn.check_no (by omega)]; rfl), rfl⟩
              ·
                refine O.oo 1 rfl ?_
                refine O.gq (t := 38) rfl rfl rfl rfl (Qt.lv 0 A3 rfl rfl rfl) rfl ?_
                refine O.oo 3 rfl ?_
                refine O.sd 43 rfl (fun p9 => ?_) (fun p9 => ?_)
                ·
                  refine O.oc 10 rfl ?_
                  exact J.r0 rfl rfl ⟨(by rw [Kn.check_no (by omega)]; rfl), rfl⟩
                ·
                  refine O.oo 1 rfl ?_
                  refine O.gq (t := 43) rfl rfl rfl rfl (Qt.lv 0 A3 rfl rfl rfl) rfl ?_
                  refine O.oc 3 rfl ?_
                  refine J.cd rfl (fun p10 => ?_) (fun p10 => ?_)
                  ·
                    refine J.cc 4 rfl ?_
                    exact J.r0 rfl rfl ⟨(by rw [Kn.check_no (by omega)]; rfl), rfl⟩
                  ·
                    refine J.co 5 rfl ?_
                    refine O.q (Qt.lv 0 A3 rfl rfl rfl) rfl ?_
                    refine O.oo 2 rfl ?_
                    refine O.sd 51 rfl (fun p11 => ?_) (fun p11 => ?_)
                    ·
                      refine O.oc 31 rfl ?_
                      exact J.r0 rfl rfl ⟨(by rw [Kn.check_no (by omega)]; rfl), rfl⟩
                    ·
                      refine O.oo 1 rfl ?_
                      refine O.gq (t := 51) rfl rfl rfl rfl (Qt.lv 0 A3 rfl rfl rfl) rfl ?_
                      refine O.oo 4 rfl ?_
                      refine O.sd 57 rfl (fun p12 => ?_) (fun p12 => ?_)
                      ·
                        refine O.oc 25 rfl ?_
                        exact J.r0 rfl rfl ⟨(by rw [Kn.check_no (by omega)]; rfl), rfl⟩
                      ·
                        refine O.oo 1 rfl ?_
                        refine O.gq (t := 57) rfl rfl rfl rfl (Qt.lv 0 A3 rfl rfl rfl) rfl ?_
                        refine O.oo 3 rfl ?_
                        refine O.sd 62 rfl (fun p13 => ?_) (fun p13 => ?_)
                        ·
                          refine O.oc 20 rfl ?_
                          exact J.r0 rfl rfl ⟨(by rw [Kn.check_no (by omega)]; rfl), rfl⟩
                        ·
                          refine O.oo 1 rfl ?_
                          refine O.gq (t := 62) rfl rfl rfl rfl (Qt.lv 0 A3 rfl rfl rfl) rfl ?_
                          refine O.oo 3 rfl ?_
                          refine O.sd 67 rfl (fun p14 => ?_) (fun p14 => ?_)
                          ·
                            refine O.oc 15 rfl ?_
                            exact J.r0 rfl rfl ⟨(by rw [Kn.check_no (by omega)]; rfl), rfl⟩
                          ·
                            refine O.oo 1 rfl ?_
                            refine O.gq (t := 67) rfl rfl rfl rfl (Qt.lv 0 A3 rfl rfl rfl) rfl ?_
                            refine O.oo 3 rfl ?_
                            refine O.sd 72 rfl (fun p15 => ?_) (fun p15 => ?_)
                            ·
                              refine O.oc 10 rfl ?_
                              exact J.r0 rfl rfl ⟨(by rw [Kn.check_no (by omega)]; rfl), rfl⟩
                            ·
                              refine O.oo 1 rfl ?_
                              refine O.gq (t := 72) rfl rfl rfl rfl (Qt.lv 0 A3 rfl rfl rfl) rfl ?_
                              refine O.oc 3 rfl ?_
                              refine J.cd rfl (fun p16 => ?_) (fun p16 => ?_)
                              ·
                                refine J.cc 4 rfl ?_
                                exact J.r0 rfl rfl ⟨(by rw [Kn.check_no (by omega)]; rfl), rfl⟩
                              ·
                                refine J.cc 5 rfl ?_
                                exact J.r0 rfl rfl ⟨(by rw [Kn.check_yes (by omega)]; rfl), rfl⟩

set_option maxRecDepth 100000 in
theorem kn_Usual (m : Int) : Tri Tryz.prog 21 #[.int .i64 m] [] [] (fun v L' => v = .agg #[.int .i64 1, .int .i64 4, .int .i64 10, .int .i64 5, .int .i64 1, .int .i64 3, .int .i64 2] ∧ L' = []) := by
  refine Tri.en F21 rfl K21 rfl fun w0 => ?_
  refine J.co 2 rfl ?_
  refine O.l (Lo.al Y44 rfl) rfl ?_
  rintro _ _ ⟨g1, rfl, rfl⟩
  refine O.oo 3 rfl ?_
  refine O.p (Pu.build [(0, .int .i64 1), (1, .int .i64 4), (2, .int .i64 10), (3, .int .i64 5), (4, .int .i64 1), (5, .int .i64 3), (6, .int .i64 2)] [.int .i64 1, .int .i64 4, .int .i64 10, .int .i64 5, .int .i64 1, .int .i64 3, .int .i64 2] #[(0, 1), (1, 1), (2, 1), (3, 1), (4, 1), (5, 1), (6, 1)] U44 Y44 (places44 N44) rfl (by kernel_rfl)) rfl ?_
  refine O.l0 (Lo.st 0 Z44 rfl rfl rfl rfl rfl rfl rfl) ?_
  rintro _ _ rfl
  refine O.nil ?_
  exact J.rn [_] [] rfl ⟨⟨_, _, 0, 0, _, rfl, (Cel.var 0 rfl), rfl, (Cut.agg [.int .i64 1, .int .i64 4, .int .i64 10, .int .i64 5, .int .i64 1, .int .i64 3, .int .i64 2] A44 Z44 rfl rfl)⟩, trivial⟩ rfl ⟨rfl, rfl⟩

end Go.Proofs.YtnhfgnnpbipcnaaGreatDoor
