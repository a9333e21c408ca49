/-
  Several texts in one: SI1, SI2.
-/
import Derived.KernelRfl
import Derived.Test.YtnhfgnnpbipcnaaGreatDoorGXA
import Derived.Test.YtnhfgnnpbipcnaaGreatDoorSiteA
namespace Go.Proofs.YtnhfgnnpbipcnaaGreatDoor
open Go Go.LK
set_option linter.unusedSimpArgs false

set_option maxRecDepth 100000 in
theorem bd_Keep (n most : Int) : Tri Tryz.prog 101 #[.int .i64 n, .int .i64 most] [] [] (fun v L' => v = .int .i64 (Si.keep n most) ∧ L' = []) := by
  refine Tri.en F101 rfl K101 rfl fun w0 => ?_
  refine J.co 8 rfl ?_
  refine O.p (Pu.min rfl rfl) rfl ?_
  refine O.p (Pu.max rfl rfl) rfl ?_
  refine O.oc 2 rfl ?_
  exact J.r0 rfl rfl ⟨rfl, rfl⟩

set_option maxRecDepth 100000 in
theorem bd_times (a b : Int) : Tri Tryz.prog 67 #[.int .i64 a, .int .i64 b] [] [] (fun v L' => v = .int .i64 (IntKind.i64.wrap (a * b)) ∧ L' = []) := by
  refine Tri.en F67 rfl K67 rfl fun w0 => ?_
  refine J.co 8 rfl ?_
  refine O.p (Pu.mul rfl rfl) rfl ?_
  refine O.oc 2 rfl ?_
  exact J.r0 rfl rfl ⟨rfl, rfl⟩

set_option maxRecDepth 100000 in
theorem bd_countsMul (a b : Int) : Tri Tryz.prog 66 #[.int .i64 a, .int .i64 b, .func (.func 67) #[] #[]] [] [] (fun v L' => v = .int .i64 (Si.mulC a b) ∧ L' = []) := by
  refine Tri.en F66 rfl K66 rfl fun w0 => ?_
  refine J.co 8 rfl ?_
  refine O.l (Lo.ca C101 (bd_Keep a 2147483647) [] rfl rfl .nil) rfl ?_
  rintro _ _ ⟨_, ⟨rfl, rfl⟩, rfl⟩
  refine O.oo 1 rfl ?_
  refine O.l (Lo.ca C101 (bd_Keep b 2147483647) [] rfl rfl .nil) rfl ?_
  rintro _ _ ⟨_, ⟨rfl, rfl⟩, rfl⟩
  refine O.l (Lo.cv C67 rfl rfl (bd_times (Si.keep a 2147483647) (Si.keep b 2147483647)) [] rfl .nil) rfl ?_
  rintro _ _ ⟨_, ⟨rfl, rfl⟩, rfl⟩
  refine O.l (Lo.ca C101 (bd_Keep (IntKind.i64.wrap ((Si.keep a 2147483647) * (Si.keep b 2147483647))) 2147483647) [] rfl rfl .nil) rfl ?_
  rintro _ _ ⟨_, ⟨rfl, rfl⟩, rfl⟩
  refine O.oc 2 rfl ?_
  exact J.r0 rfl rfl ⟨rfl, rfl⟩

set_option maxRecDepth 100000 in
theorem bd_Mul (a b : Int) : Tri Tryz.prog 33 #[.int .i64 a, .int .i64 b] [] [] (fun v L' => v = .int .i64 (Si.mulC a b) ∧ L' = []) := by
  refine Tri.en F33 rfl K33 rfl fun w0 => ?_
  refine J.co 8 rfl ?_
  refine O.l (Lo.ca C66 (bd_countsMul a b) [] rfl rfl .nil) rfl ?_
  rintro _ _ ⟨_, ⟨rfl, rfl⟩, rfl⟩
  refine O.oc 2 rfl ?_
  exact J.r0 rfl rfl ⟨rfl, rfl⟩

set_option maxRecDepth 100000 in
theorem r01_Keep (n most : Int) : Tri Tryz.prog 102 #[.int .i64 n, .int .i64 most] [] [] (fun v L' => v = .int .i64 (Si.keep n most) ∧ L' = []) := by
  refine Tri.en F102 rfl K102 rfl fun w0 => ?_
  refine J.co 10 rfl ?_
  refine O.sd 7 rfl (fun p1 => ?_) (fun p1 => ?_)
  ·
    refine O.oc 9 rfl ?_
    exact J.r0 rfl rfl ⟨(by simp only [vOf]; congr 1; unfold Si.keep; (repeat' split) <;> omega), rfl⟩
  ·
    refine O.oc 4 rfl ?_
    refine J.cd rfl (fun p2 => ?_) (fun p2 => ?_)
    ·
      refine J.cc 4 rfl ?_
      exact J.r0 rfl rfl ⟨(by simp only [vOf]; congr 1; unfold Si.keep; (repeat' split) <;> omega), rfl⟩
    ·
      refine J.cc 8 rfl ?_
      refine J.cd rfl (fun p3 => ?_) (fun p3 => ?_)
      ·
        refine J.cc 5 rfl ?_
        exact J.r0 rfl rfl ⟨(by simp only [vOf]; congr 1; unfold Si.keep; (repeat' split) <;> omega), rfl⟩
      ·
        refine J.cc 6 rfl ?_
        exact J.r0 rfl rfl ⟨(by simp only [vOf]; congr 1; unfold Si.keep; (repeat' split) <;> omega), rfl⟩

set_option maxRecDepth 100000 in
theorem r01_Count (n : Int) : Tri Tryz.prog 68 #[.int .i64 n] [] [] (fun v L' => v = .int .i64 (Si.keep n 2147483647) ∧ L' = []) := by
  refine Tri.en F68 rfl K68 rfl fun w0 => ?_
  refine J.co 7 rfl ?_
  refine O.l (Lo.ca C102 (r01_Keep n 2147483647) [] rfl rfl .nil) rfl ?_
  rintro _ _ ⟨_, ⟨rfl, rfl⟩, rfl⟩
  refine O.oc 2 rfl ?_
  exact J.r0 rfl rfl ⟨rfl, rfl⟩

set_option maxRecDepth 100000 in
theorem r01_Mul (a b : Int) : Tri Tryz.prog 34 #[.int .i64 a, .int .i64 b] [] [] (fun v L' => v = .int .i64 (Si.mulC a b) ∧ L' = []) := by
  refine Tri.en F34 rfl K34 rfl fun w0 => ?_
  refine J.co 7 rfl ?_
  refine O.l (Lo.ca C68 (r01_Count a) [] rfl rfl .nil) rfl ?_
  rintro _ _ ⟨_, ⟨rfl, rfl⟩, rfl⟩
  refine O.oo 1 rfl ?_
  refine O.l (Lo.ca C68 (r01_Count b) [] rfl rfl .nil) rfl ?_
  rintro _ _ ⟨_, ⟨rfl, rfl⟩, rfl⟩
  refine O.p (Pu.mul rfl rfl) rfl ?_
  refine O.l (Lo.ca C68 (r01_Count (IntKind.i64.wrap ((Si.keep a 2147483647) * (Si.keep b 2147483647)))) [] rfl rfl .nil) rfl ?_
  rintro _ _ ⟨_, ⟨rfl, rfl⟩, rfl⟩
  refine O.oc 2 rfl ?_
  exact J.r0 rfl rfl ⟨rfl, rfl⟩

set_option maxRecDepth 100000 in
theorem lv_New (b c : Int) (hb : Si.okL b c = true) : Tri Tryz.prog 24 #[.int .i64 b, .int .i64 c] [] [] (fun v L' => v = .tuple #[.agg #[.int .i64 b, .int .i64 c], .int .i64 0] ∧ L' = []) := by
  have hb2 := Si.okL_iff.1 hb
  refine Tri.en F24 rfl K24 rfl fun w0 => ?_
  refine J.co 2 rfl ?_
  refine O.l (Lo.al Y57 rfl) rfl ?_
  rintro _ _ ⟨g1, rfl, rfl⟩
  refine O.oo 6 rfl ?_
  refine O.p (Pu.build [(0, .int .i64 b), (1, .int .i64 c)] [.int .i64 b, .int .i64 c] #[(0, 1), (1, 1)] U55 Y55 (places55 N55) rfl (by kernel_rfl)) rfl ?_
  refine O.p (Pu.build [(0, .agg #[.int .i64 b, .int .i64 c])] [.int .i64 b, .int .i64 c] #[(0, 2)] U57 Y57 (places57 N57) rfl (by kernel_rfl)) rfl ?_
  refine O.l (Lo.al Y57 rfl) rfl ?_
  rintro _ _ ⟨g2, rfl, rfl⟩
  refine O.l0 (Lo.st 0 Z57 rfl rfl rfl rfl rfl rfl rfl) ?_
  rintro _ _ rfl
  refine O.oo 7 rfl ?_
  refine O.kf 13 rfl (decide_eq_false (by omega)) ?_
  refine O.oo 4 rfl ?_
  refine O.kf 17 rfl (decide_eq_false (by omega)) ?_
  refine O.oo 4 rfl ?_
  refine O.kf 21 rfl (decide_eq_false (by omega)) ?_
  refine O.oc 4 rfl ?_
  refine J.condF rfl (decide_eq_false (by omega)) ?_
  refine J.co 3 rfl ?_
  refine O.q (Qt.lva 0 A57 Z57 rfl rfl rfl) rfl ?_
  refine O.l0 (Lo.st 1 Z57 rfl rfl rfl rfl rfl rfl rfl) ?_
  rintro _ _ rfl
  refine O.oc 2 rfl ?_
  exact J.rn [_, _] [] rfl ⟨⟨_, _, 0, 0, _, rfl, (Cel.var 1 rfl), rfl, (Cut.agg [.int .i64 b, .int .i64 c] A57 Z57 rfl rfl)⟩, rfl, trivial⟩ rfl ⟨rfl, rfl⟩

set_option maxRecDepth 100000 in
theorem lv_NewNo (b c : Int) (hb : Si.okL b c = false) : Tri Tryz.prog 24 #[.int .i64 b, .int .i64 c] [] [] (fun v L' => v = .tuple #[.agg #[.int .i64 0, .int .i64 0], .int .i64 1] ∧ L' = []) := by
  have hb2 := Si.okL_no hb
  refine Tri.en F24 rfl K24 rfl fun w0 => ?_
  refine J.co 2 rfl ?_
  refine O.l (Lo.al Y57 rfl) rfl ?_
  rintro _ _ ⟨g1, rfl, rfl⟩
  refine O.oo 6 rfl ?_
  refine O.p (Pu.build [(0, .int .i64 b), (1, .int .i64 c)] [.int .i64 b, .int .i64 c] #[(0, 1), (1, 1)] U55 Y55 (places55 N55) rfl (by kernel_rfl)) rfl ?_
  refine O.p (Pu.build [(0, .agg #[.int .i64 b, .int .i64 c])] [.int .i64 b, .int .i64 c] #[(0, 2)] U57 Y57 (places57 N57) rfl (by kernel_rfl)) rfl ?_
  refine O.l (Lo.al Y57 rfl) rfl ?_
  rintro _ _ ⟨g2, rfl, rfl⟩
  refine O.l0 (Lo.st 0 Z57 rfl rfl rfl rfl rfl rfl rfl) ?_
  rintro _ _ rfl
  refine O.oo 7 rfl ?_
  refine O.sd 13 rfl (fun p3 => ?_) (fun p3 => ?_)
  ·
    refine O.oo 15 rfl ?_
    refine O.p (Pu.build [] [.int .i64 0, .int .i64 0] #[(0, 2)] U57 Y57 (places57 N57) rfl (by kernel_rfl)) rfl ?_
    refine O.l0 (Lo.st 1 Z57 rfl rfl rfl rfl rfl rfl rfl) ?_
    rintro _ _ rfl
    refine O.oc 2 rfl ?_
    exact J.rn [_, _] [] rfl ⟨⟨_, _, 0, 0, _, rfl, (Cel.var 1 rfl), rfl, (Cut.agg [.int .i64 0, .int .i64 0] A57 Z57 rfl rfl)⟩, rfl, trivial⟩ rfl ⟨rfl, rfl⟩
  ·
    refine O.oo 4 rfl ?_
    refine O.sd 17 rfl (fun p4 => ?_) (fun p4 => ?_)
    ·
      refine O.oo 11 rfl ?_
      refine O.p (Pu.build [] [.int .i64 0, .int .i64 0] #[(0, 2)] U57 Y57 (places57 N57) rfl (by kernel_rfl)) rfl ?_
      refine O.l0 (Lo.st 1 Z57 rfl rfl rfl rfl rfl rfl rfl) ?_
      rintro _ _ rfl
      refine O.oc 2 rfl ?_
      exact J.rn [_, _] [] rfl ⟨⟨_, _, 0, 0, _, rfl, (Cel.var 1 rfl), rfl, (Cut.agg [.int .i64 0, .int .i64 0] A57 Z57 rfl rfl)⟩, rfl, trivial⟩ rfl ⟨rfl, rfl⟩
    ·
      refine O.oo 4 rfl ?_
      refine O.sd 21 rfl (fun p5 => ?_) (fun p5 => ?_)
      ·
        refine O.oo 7 rfl ?_
        refine O.p (Pu.build [] [.int .i64 0, .int .i64 0] #[(0, 2)] U57 Y57 (places57 N57) rfl (by kernel_rfl)) rfl ?_
        refine O.l0 (Lo.st 1 Z57 rfl rfl rfl rfl rfl rfl rfl) ?_
        rintro _ _ rfl
        refine O.oc 2 rfl ?_
        exact J.rn [_, _] [] rfl ⟨⟨_, _, 0, 0, _, rfl, (Cel.var 1 rfl), rfl, (Cut.agg [.int .i64 0, .int .i64 0] A57 Z57 rfl rfl)⟩, rfl, trivial⟩ rfl ⟨rfl, rfl⟩
      ·
        refine O.oc 4 rfl ?_
        refine J.cd rfl (fun p6 => ?_) (fun p6 => ?_)
        ·
          refine J.co 2 rfl ?_
          refine O.p (Pu.build [] [.int .i64 0, .int .i64 0] #[(0, 2)] U57 Y57 (places57 N57) rfl (by kernel_rfl)) rfl ?_
          refine O.l0 (Lo.st 1 Z57 rfl rfl rfl rfl rfl rfl rfl) ?_
          rintro _ _ rfl
          refine O.oc 2 rfl ?_
          exact J.rn [_, _] [] rfl ⟨⟨_, _, 0, 0, _, rfl, (Cel.var 1 rfl), rfl, (Cut.agg [.int .i64 0, .int .i64 0] A57 Z57 rfl rfl)⟩, rfl, trivial⟩ rfl ⟨rfl, rfl⟩
        ·
          exfalso; omega

set_option maxRecDepth 100000 in
theorem us_New (n : Nat) (c r : Int) (hb : Si.okU c r = true) : Tri Tryz.prog 25 #[.int .u64 (Nat.cast n : Int), .int .i64 c, .int .i64 r] [] [] (fun v L' => v = .tuple #[.agg #[.int .u64 (Nat.cast n : Int), .int .i64 c, .int .i64 r], .int .i64 0] ∧ L' = []) := by
  have hb2 := Si.okU_iff.1 hb
  refine Tri.en F25 rfl K25 rfl fun w0 => ?_
  refine J.co 2 rfl ?_
  refine O.l (Lo.al Y61 rfl) rfl ?_
  rintro _ _ ⟨g1, rfl, rfl⟩
  refine O.oo 8 rfl ?_
  refine O.kf 10 rfl (decide_eq_false (by omega)) ?_
  refine O.oo 4 rfl ?_
  refine O.kf 14 rfl (decide_eq_false (by omega)) ?_
  refine O.oo 4 rfl ?_
  refine O.kf 18 rfl (decide_eq_false (by omega)) ?_
  refine O.oc 4 rfl ?_
  refine J.condF rfl (decide_eq_false (by omega)) ?_
  refine J.co 6 rfl ?_
  refine O.p (Pu.build [(0, .int .u64 (Nat.cast n : Int)), (1, .int .i64 c), (2, .int .i64 r)] [.int .u64 (Nat.cast n : Int), .int .i64 c, .int .i64 r] #[(0, 1), (1, 1), (2, 1)] U61 Y61 (places61 N61) rfl (by kernel_rfl)) rfl ?_
  refine O.l0 (Lo.st 0 Z61 rfl rfl rfl rfl rfl rfl rfl) ?_
  rintro _ _ rfl
  refine O.oc 2 rfl ?_
  exact J.rn [_, _] [] rfl ⟨⟨_, _, 0, 0, _, rfl, (Cel.var 0 rfl), rfl, (Cut.agg [.int .u64 (Nat.cast n : Int), .int .i64 c, .int .i64 r] A61 Z61 rfl rfl)⟩, rfl, trivial⟩ rfl ⟨rfl, rfl⟩

set_option maxRecDepth 100000 in
theorem us_NewNo (n : Nat) (c r : Int) (hb : Si.okU c r = false) : Tri Tryz.prog 25 #[.int .u64 (Nat.cast n : Int), .int .i64 c, .int .i64 r] [] [] (fun v L' => v = .tuple #[.agg #[.int .u64 0, .int .i64 0, .int .i64 0], .int .i64 1] ∧ L' = []) := by
  have hb2 := Si.okU_no hb
  refine Tri.en F25 rfl K25 rfl fun w0 => ?_
  refine J.co 2 rfl ?_
  refine O.l (Lo.al Y61 rfl) rfl ?_
  rintro _ _ ⟨g1, rfl, rfl⟩
  refine O.oo 8 rfl ?_
  refine O.sd 10 rfl (fun p2 => ?_) (fun p2 => ?_)
  ·
    refine O.oo 15 rfl ?_
    refine O.p (Pu.build [] [.int .u64 0, .int .i64 0, .int .i64 0] #[(0, 1), (1, 1), (2, 1)] U61 Y61 (places61 N61) rfl (by kernel_rfl)) rfl ?_
    refine O.l0 (Lo.st 0 Z61 rfl rfl rfl rfl rfl rfl rfl) ?_
    rintro _ _ rfl
    refine O.oc 2 rfl ?_
    exact J.rn [_, _] [] rfl ⟨⟨_, _, 0, 0, _, rfl, (Cel.var 0 rfl), rfl, (Cut.agg [.int .u64 0, .int .i64 0, .int .i64 0] A61 Z61 rfl rfl)⟩, rfl, trivial⟩ rfl ⟨rfl, rfl⟩
  ·
    refine O.oo 4 rfl ?_
    refine O.sd 14 rfl (fun p3 => ?_) (fun p3 => ?_)
    ·
      refine O.oo 11 rfl ?_
      refine O.p (Pu.build [] [.int .u64 0, .int .i64 0, .int .i64 0] #[(0, 1), (1, 1), (2, 1)] U61 Y61 (places61 N61) rfl (by kernel_rfl)) rfl ?_
      refine O.l0 (Lo.st 0 Z61 rfl rfl rfl rfl rfl rfl rfl) ?_
      rintro _ _ rfl
      refine O.oc 2 rfl ?_
      exact J.rn [_, _] [] rfl ⟨⟨_, _, 0, 0, _, rfl, (Cel.var 0 rfl), rfl, (Cut.agg [.int .u64 0, .int .i64 0, .int .i64 0] A61 Z61 rfl rfl)⟩, rfl, trivial⟩ rfl ⟨rfl, rfl⟩
    ·
      refine O.oo 4 rfl ?_
      refine O.sd 18 rfl (fun p4 => ?_) (fun p4 => ?_)
      ·
        refine O.oo 7 rfl ?_
        refine O.p (Pu.build [] [.int .u64 0, .int .i64 0, .int .i64 0] #[(0, 1), (1, 1), (2, 1)] U61 Y61 (places61 N61) rfl (by kernel_rfl)) rfl ?_
        refine O.l0 (Lo.st 0 Z61 rfl rfl rfl rfl rfl rfl rfl) ?_
        rintro _ _ rfl
        refine O.oc 2 rfl ?_
        exact J.rn [_, _] [] rfl ⟨⟨_, _, 0, 0, _, rfl, (Cel.var 0 rfl), rfl, (Cut.agg [.int .u64 0, .int .i64 0, .int .i64 0] A61 Z61 rfl rfl)⟩, rfl, trivial⟩ rfl ⟨rfl, rfl⟩
      ·
        refine O.oc 4 rfl ?_
        refine J.cd rfl (fun p5 => ?_) (fun p5 => ?_)
        ·
          refine J.co 2 rfl ?_
          refine O.p (Pu.build [] [.int .u64 0, .int .i64 0, .int .i64 0] #[(0, 1), (1, 1), (2, 1)] U61 Y61 (places61 N61) rfl (by kernel_rfl)) rfl ?_
          refine O.l0 (Lo.st 0 Z61 rfl rfl rfl rfl rfl rfl rfl) ?_
          rintro _ _ rfl
          refine O.oc 2 rfl ?_
          exact J.rn [_, _] [] rfl ⟨⟨_, _, 0, 0, _, rfl, (Cel.var 0 rfl), rfl, (Cut.agg [.int .u64 0, .int .i64 0, .int .i64 0] A61 Z61 rfl rfl)⟩, rfl, trivial⟩ rfl ⟨rfl, rfl⟩
        ·
          exfalso; omega

set_option maxRecDepth 100000 in
theorem lv_Levels (b c : Int) (hb : Si.okL b c = true) : Tri Tryz.prog 27 #[.agg #[.int .i64 b, .int .i64 c]] [] [] (fun v L' => v = .int .i64 (b * c) ∧ L' = []) := by
  refine Tri.en F27 rfl K27 rfl fun w0 => ?_
  refine J.co 2 rfl ?_
  refine O.l (Lo.bx rfl rfl) rfl ?_
  rintro _ _ ⟨g1, rfl, rfl⟩
  refine O.oo 5 rfl ?_
  refine O.q (Qt.lv 0 A3 rfl rfl rfl) rfl ?_
  refine O.oo 1 rfl ?_
  refine O.q (Qt.lv 0 A3 rfl rfl rfl) rfl ?_
  refine O.p (Pu.mul' rfl rfl (by have h_ := Si.mul_bnd hb; omega)) rfl ?_
  refine O.oc 2 rfl ?_
  exact J.r0 rfl rfl ⟨rfl, rfl⟩

set_option maxRecDepth 100000 in
theorem r08_Right (b c : Int) : Tri Tryz.prog 29 #[.int .i64 b, .int .i64 c] [] [] (fun v L' => v = .bool (Si.okL b c) ∧ L' = []) := by
  refine Tri.en F29 rfl K29 rfl fun w0 => ?_
  refine J.co 9 rfl ?_
  refine O.sd 7 rfl (fun p1 => ?_) (fun p1 => ?_)
  ·
    refine O.oo 4 rfl ?_
    refine O.sd 11 rfl (fun p2 => ?_) (fun p2 => ?_)
    ·
      refine O.oo 4 rfl ?_
      refine O.sd 15 rfl (fun p3 => ?_) (fun p3 => ?_)
      ·
        refine O.oc 5 rfl ?_
        exact J.r0 rfl rfl ⟨(by simp [vOf, Si.okL, Si.okU, *]), rfl⟩
      ·
        refine O.oc 5 rfl ?_
        exact J.r0 rfl rfl ⟨(by simp [vOf, Si.okL, Si.okU, *]), rfl⟩
    ·
      refine O.oc 9 rfl ?_
      exact J.r0 rfl rfl ⟨(by simp [vOf, Si.okL, Si.okU, *]), rfl⟩
  ·
    refine O.oc 13 rfl ?_
    exact J.r0 rfl rfl ⟨(by simp [vOf, Si.okL, Si.okU, *]), rfl⟩

set_option maxRecDepth 100000 in
theorem r09_Right (c r : Int) : Tri Tryz.prog 30 #[.int .i64 c, .int .i64 r] [] [] (fun v L' => v = .bool (Si.okU c r) ∧ L' = []) := by
  refine Tri.en F30 rfl K30 rfl fun w0 => ?_
  refine J.co 9 rfl ?_
  refine O.sd 7 rfl (fun p1 => ?_) (fun p1 => ?_)
  ·
    refine O.oo 4 rfl ?_
    refine O.sd 11 rfl (fun p2 => ?_) (fun p2 => ?_)
    ·
      refine O.oo 4 rfl ?_
      refine O.sd 15 rfl (fun p3 => ?_) (fun p3 => ?_)
      ·
        refine O.oc 5 rfl ?_
        exact J.r0 rfl rfl ⟨(by simp [vOf, Si.okL, Si.okU, *]), rfl⟩
      ·
        refine O.oc 5 rfl ?_
        exact J.r0 rfl rfl ⟨(by simp [vOf, Si.okL, Si.okU, *]), rfl⟩
    ·
      refine O.oc 9 rfl ?_
      exact J.r0 rfl rfl ⟨(by simp [vOf, Si.okL, Si.okU, *]), rfl⟩
  ·
    refine O.oc 13 rfl ?_
    exact J.r0 rfl rfl ⟨(by simp [vOf, Si.okL, Si.okU, *]), rfl⟩

set_option maxRecDepth 100000 in
theorem si_Levels (b c r : Int) (n : Nat) (sv : Value) (l : List Sg) : Tri Tryz.prog 14 #[.agg #[.int .i64 b, .int .i64 c, .int .i64 r, .int .u64 (Nat.cast n : Int), sv]] [rd sv 14 (l.map Sg.cells), ros (l.map Sg.rd)] [] (fun v L' => v = .int .i64 (Si.mulC b c) ∧ L' = []) := by
  refine Tri.en F14 rfl K14 rfl fun w0 => ?_
  refine J.co 2 rfl ?_
  refine O.one (Src.ro 0 rfl) (fun hV2 => ?_)
  refine O.l (Lo.bx rfl rfl) rfl ?_
  rintro _ _ ⟨g1, rfl, rfl⟩
  refine O.oo 5 rfl ?_
  refine O.q (Qt.lv 0 A3 rfl rfl rfl) rfl ?_
  refine O.oo 1 rfl ?_
  refine O.q (Qt.lv 0 A3 rfl rfl rfl) rfl ?_
  refine O.l (Lo.ca C33 (bd_Mul b c) [] rfl rfl .nil) rfl ?_
  rintro _ _ ⟨_, ⟨rfl, rfl⟩, rfl⟩
  refine O.oc 2 rfl ?_
  exact J.r0 rfl rfl ⟨rfl, rfl⟩

set_option maxRecDepth 100000 in
theorem r30_Levels (b c r : Int) (n : Nat) (sv : Value) (l : List Sg) : Tri Tryz.prog 15 #[.agg #[.int .i64 b, .int .i64 c, .int .i64 r, .int .u64 (Nat.cast n : Int), sv]] [rd sv 14 (l.map Sg.cells), ros (l.map Sg.rd)] [] (fun v L' => v = .int .i64 (Si.mulC b c) ∧ L' = []) := by
  refine Tri.en F15 rfl K15 rfl fun w0 => ?_
  refine J.co 2 rfl ?_
  refine O.one (Src.ro 0 rfl) (fun hV2 => ?_)
  refine O.l (Lo.bx rfl rfl) rfl ?_
  rintro _ _ ⟨g1, rfl, rfl⟩
  refine O.oo 5 rfl ?_
  refine O.q (Qt.lv 0 A3 rfl rfl rfl) rfl ?_
  refine O.oo 1 rfl ?_
  refine O.q (Qt.lv 0 A3 rfl rfl rfl) rfl ?_
  refine O.l (Lo.ca C34 (r01_Mul b c) [] rfl rfl .nil) rfl ?_
  rintro _ _ ⟨_, ⟨rfl, rfl⟩, rfl⟩
  refine O.oc 2 rfl ?_
  exact J.r0 rfl rfl ⟨rfl, rfl⟩

set_option maxRecDepth 100000 in
theorem l30_few (b c r : Int) (n : Nat) (sv : Value) (l : List Sg) : Tri Tryz.prog 7 #[.agg #[.int .i64 b, .int .i64 c, .int .i64 r, .int .u64 (Nat.cast n : Int), sv]] [rd sv 14 (l.map Sg.cells), ros (l.map Sg.rd)] [] (fun v L' => ∃ q, v = .bool q ∧ (q = true → Si.fewP l) ∧ L' = []) := by
  refine Tri.en F7 rfl K7 rfl fun w0 => ?_
  refine J.co 2 rfl ?_
  refine O.one (Src.ro 0 rfl) (fun hV2 => ?_)
  refine O.l (Lo.bx rfl rfl) rfl ?_
  rintro _ _ ⟨g1, rfl, rfl⟩
  refine O.oc 8 rfl ?_
  refine J.lo (X := Nat) (fun k => k ≤ l.length ∧ ∀ (i : Nat) (s : Sg), i < k → l[i]? = some s → s.cl.length ≤ 10) (fun k => [(3, .int .i64 (k : Int))]) (fun k => []) (fun k => l.length - k) 0 [1] [] [0] ⟨by omega, fun i s h => absurd h (Nat.not_lt_zero i)⟩ ⟨(eqi (by omega)), trivial⟩ rfl rfl ?_
  rintro k ⟨hk, hno⟩
  refine J.co 5 rfl ?_
  refine O.q (Qt.lv 0 A23 rfl rfl rfl) rfl ?_
  refine O.q (Qt.lenM U23 rfl (Src.ro 0 rfl)) rfl ?_
  refine O.oo 2 rfl ?_
  refine O.sd 9 rfl (fun p3 => ?_) (fun p3 => ?_)
  ·
    refine O.oc 4 rfl ?_
    refine J.cd rfl (fun p4 => ?_) (fun p4 => ?_)
    ·
      refine J.cc 4 rfl ?_
      obtain ⟨e5, he5⟩ := ex_at (l := l) (i := k) (by omega)
      refine J.ros 1 rfl (A := rd e5.cv 4 (e5.cl.map Cl.cells)) (List.mem_map.2 ⟨e5, List.mem_of_getElem? he5, rfl⟩) ?_
      refine J.co 2 rfl ?_
      refine O.q (Qt.lv 0 A23 rfl rfl rfl) rfl ?_
      refine O.oo 1 rfl ?_
      refine O.q (Qt.idxM U23 Z47 rfl (Src.ro 0 rfl) rfl (by omega) (by omega)) rfl ?_
      refine O.oo 1 rfl ?_
      refine O.q (Qt.le A45 (Src.ro 0 rfl) he5 13 rfl (by omega) rfl) rfl ?_
      refine O.q (Qt.lenM U45 rfl (Src.ro 2 rfl)) rfl ?_
      refine O.oc 2 rfl ?_
      refine J.cd rfl (fun p6 => ?_) (fun p6 => ?_)
      ·
        refine J.cc 4 rfl ?_
        exact J.r0 rfl rfl ⟨_, rfl, (fun h_ => by cases h_), rfl⟩
      ·
        refine J.co 4 rfl ?_
        refine O.p (Pu.add' rfl rfl (by omega)) rfl ?_
        refine O.oc 2 rfl ?_
        exact J.lq (k + 1) [1] [] [0] ⟨by omega, Si.few_next hno he5 (by omega)⟩ (by omega) ⟨(eqi (by omega)), trivial⟩ rfl rfl
    ·
      refine J.co 4 rfl ?_
      refine O.q (Qt.lv 0 A23 rfl rfl rfl) rfl ?_
      refine O.q (Qt.lenM U23 rfl (Src.ro 0 rfl)) rfl ?_
      refine O.oc 3 rfl ?_
      exact J.r0 rfl rfl ⟨_, rfl, (fun h_ => Si.few_all hno (by omega) (by have h2_ := of_decide_eq_true h_; omega)), rfl⟩
  ·
    refine O.oo 9 rfl ?_
    refine O.q (Qt.lv 0 A23 rfl rfl rfl) rfl ?_
    refine O.q (Qt.lenM U23 rfl (Src.ro 0 rfl)) rfl ?_
    refine O.oc 3 rfl ?_
    exact J.r0 rfl rfl ⟨_, rfl, (fun h_ => Si.few_all hno (by omega) (by have h2_ := of_decide_eq_true h_; omega)), rfl⟩

end Go.Proofs.YtnhfgnnpbipcnaaGreatDoor

namespace Go.Proofs.YtnhfgnnpbipcnaaGreatDoor
open Go Go.LK
set_option linter.unusedSimpArgs false

set_option maxRecDepth 100000 in
set_option maxHeartbeats 2000000 in
theorem si_Check (b c r : Int) (n : Nat) (sv : Value) (l : List Sg) (hl : l.length ≤ 1000) (hc : ∀ s ∈ l, s.cl.length ≤ 1000) : Tri Tryz.prog 12 #[.agg #[.int .i64 b, .int .i64 c, .int .i64 r, .int .u64 (Nat.cast n : Int), sv]] [rd sv 14 (l.map Sg.cells), ros (l.map Sg.rd)] [] (fun v L' => v = .int .i64 (Si.chk b c r l) ∧ L' = []) := by
  refine Tri.en F12 rfl K12 rfl fun w0 => ?_
  refine J.co 2 rfl ?_
  refine O.one (Src.ro 0 rfl) (fun hV2 => ?_)
  refine O.l (Lo.bx rfl rfl) rfl ?_
  rintro _ _ ⟨g1, rfl, rfl⟩
  refine O.oc 3 rfl ?_
  refine by_bool (Si.okL b c) (fun h3 => ?_) (fun h3 => ?_)
  ·
    refine J.co 2 rfl ?_
    refine O.q (Qt.lv 0 A3 rfl rfl rfl) rfl ?_
    refine O.oo 1 rfl ?_
    refine O.q (Qt.lv 0 A3 rfl rfl rfl) rfl ?_
    refine O.l (Lo.ca C24 (lv_New b c h3) [] rfl rfl .nil) rfl ?_
    rintro _ _ ⟨_, ⟨rfl, rfl⟩, rfl⟩
    refine O.oo 3 rfl ?_
    refine O.l (Lo.al Y57 rfl) rfl ?_
    rintro _ _ ⟨g5, rfl, rfl⟩
    refine O.l0 (Lo.st 0 Z57 rfl rfl rfl rfl rfl rfl rfl) ?_
    rintro _ _ rfl
    refine O.oc 3 rfl ?_
    refine by_bool (Si.okU c r) (fun h6 => ?_) (fun h6 => ?_)
    ·
      refine J.co 2 rfl ?_
      refine O.q (Qt.lv 1 A22 rfl rfl rfl) rfl ?_
      refine O.oo 1 rfl ?_
      refine O.q (Qt.lv 1 A3 rfl rfl rfl) rfl ?_
      refine O.oo 1 rfl ?_
      refine O.q (Qt.lv 1 A3 rfl rfl rfl) rfl ?_
      refine O.l (Lo.ca C25 (us_New n c r h6) [] rfl rfl .nil) rfl ?_
      rintro _ _ ⟨_, ⟨rfl, rfl⟩, rfl⟩
      refine O.oo 3 rfl ?_
      refine O.l (Lo.al Y61 rfl) rfl ?_
      rintro _ _ ⟨g8, rfl, rfl⟩
      refine O.l0 (Lo.st 0 Z61 rfl rfl rfl rfl rfl rfl rfl) ?_
      rintro _ _ rfl
      refine O.oo 13 rfl ?_
      refine O.gq (t := 34) rfl rfl rfl rfl (Qt.lv 2 A23 rfl rfl rfl) rfl ?_
      refine O.gq (t := 34) rfl rfl rfl rfl (Qt.lenM U23 rfl (Src.ro 0 rfl)) rfl ?_
      refine O.oc 3 rfl ?_
      refine J.cd rfl (fun p9 => ?_) (fun p9 => ?_)
      ·
        refine J.cc 4 rfl ?_
        exact J.r0 rfl rfl ⟨(by rw [Si.chk_none (by omega)]; rfl), rfl⟩
      ·
        refine J.co 5 rfl ?_
        refine O.q (Qt.lv 2 A23 rfl rfl rfl) rfl ?_
        refine O.q (Qt.lenM U23 rfl (Src.ro 0 rfl)) rfl ?_
        refine O.oc 3 rfl ?_
        refine J.lo (X := Nat) (fun k => k ≤ l.length ∧ Si.chkN b c l k = true) (fun k => [(43, .int .i64 (k : Int))]) (fun k => []) (fun k => l.length - k) 0 [1, 3, 41, 42] [] [0, 1, 2] ⟨by omega, Si.chkN_zero⟩ ⟨(eqi (by omega)), trivial⟩ rfl rfl ?_
        rintro k ⟨hk, hN⟩
        refine J.cc 5 rfl ?_
        refine J.cd rfl (fun p10 => ?_) (fun p10 => ?_)
        ·
          refine J.cc 4 rfl ?_
          obtain ⟨e11, he11⟩ := ex_at (l := l) (i := k) (by omega)
          refine J.ros 1 rfl (A := rd e11.cv 4 (e11.cl.map Cl.cells)) (List.mem_map.2 ⟨e11, List.mem_of_getElem? he11, rfl⟩) ?_
          refine J.co 2 rfl ?_
          refine O.q (Qt.idxM U23 Z47 rfl (Src.ro 0 rfl) rfl (by omega) (by omega)) rfl ?_
          refine O.q (Qt.lea A47 Z47 (Src.ro 0 rfl) he11 0 rfl (by omega) rfl) rfl ?_
          refine O.l (Lo.al Y47 rfl) rfl ?_
          rintro _ _ ⟨g12, rfl, rfl⟩
          refine O.oo 1 rfl ?_
          refine O.one (Src.ro 2 rfl) (fun hV13 => ?_)
          refine O.l0 (Lo.st 0 Z47 rfl rfl rfl rfl rfl (by simp only [List.all_cons, List.all_nil, Bool.and_true, hV13] <;> rfl) rfl) ?_
          rintro _ _ rfl
          refine O.oc 2 rfl ?_
          refine J.drawHead 8 Tryz.mixed (by kernel_rfl) ?_
          refine Hd.q (Qt.lva 0 A47 Z47 rfl rfl rfl) rfl ?_
          refine Hd.p (Pu.move rfl) rfl ?_
          refine Hd.p (Pu.fieldAddr (off' := 4) U25 rfl Z23 rfl rfl rfl) rfl ?_
          refine Hd.q (Qt.lv 3 A23 rfl rfl rfl) rfl ?_
          refine Hd.q (Qt.lenM U23 rfl (Src.ro 0 rfl)) rfl ?_
          refine Hd.p (Pu.fieldAddr (off' := 0) U57 rfl Z55 rfl rfl rfl) rfl ?_
          refine Hd.q (Qt.lva 2 A55 Z55 rfl rfl rfl) rfl ?_
          refine Hd.call (vs := [.agg #[.int .i64 b, .int .i64 c]]) (caps := []) (by exact C27) rfl rfl (lv_Levels b c (by assumption)) (fun _ _ h => h) RoOk.nil rfl ?_
          refine Hd.nil ?_
          refine O.l (Lo.ca C26 (cf_Check e11.x0 e11.x1 e11.x2 e11.x3 e11.x4 e11.x5 e11.x6 e11.x7 e11.x8 e11.x9 e11.x10 e11.x11 e11.x12 e11.cv e11.cl (k : Int) (l.length : Int) (b * c) (Nat.le_trans (hc _ (List.mem_of_getElem? (by assumption))) (by decide))) [] rfl rfl (.ro 2 rfl .nil)) rfl ?_
          rintro _ _ ⟨_, ⟨rfl, rfl⟩, rfl⟩
          refine O.oc 7 rfl ?_
          refine J.cd rfl (fun p15 => ?_) (fun p15 => ?_)
          ·
            refine J.cc 5 rfl ?_
            exact J.r0 rfl rfl ⟨(by rw [Si.chk_bad' he11 (by assumption)]; rfl), rfl⟩
          ·
            refine J.co 3 rfl ?_
            refine O.p (Pu.add' rfl rfl (by omega)) rfl ?_
            refine O.oc 2 rfl ?_
            exact J.lq (k + 1) [1, 3, 41, 42] [] [1, 2, 3] ⟨by omega, Si.chkN_next hN he11 (Decidable.not_not.1 (by assumption))⟩ (by omega) ⟨(eqi (by omega)), trivial⟩ rfl rfl
        ·
          refine J.co 4 rfl ?_
          refine O.q (Qt.lv 2 A23 rfl rfl rfl) rfl ?_
          refine O.l (Lo.ca C28 (g_Check sv l hl hc) [] rfl rfl (.ro 0 rfl (.ro 1 rfl .nil))) rfl ?_
          rintro _ _ ⟨_, ⟨rfl, rfl⟩, rfl⟩
          refine O.oc 2 rfl ?_
          exact J.r0 rfl rfl ⟨(by rw [Si.chk_all (by assumption) (by assumption) (by omega) hN (by omega) (by omega)]; rfl), rfl⟩
    ·
      refine J.co 2 rfl ?_
      refine O.q (Qt.lv 1 A22 rfl rfl rfl) rfl ?_
      refine O.oo 1 rfl ?_
      refine O.q (Qt.lv 1 A3 rfl rfl rfl) rfl ?_
      refine O.oo 1 rfl ?_
      refine O.q (Qt.lv 1 A3 rfl rfl rfl) rfl ?_
      refine O.l (Lo.ca C25 (us_NewNo n c r h6) [] rfl rfl .nil) rfl ?_
      rintro _ _ ⟨_, ⟨rfl, rfl⟩, rfl⟩
      refine O.oo 3 rfl ?_
      refine O.l (Lo.al Y61 rfl) rfl ?_
      rintro _ _ ⟨g18, rfl, rfl⟩
      refine O.l0 (Lo.st 0 Z61 rfl rfl rfl rfl rfl rfl rfl) ?_
      rintro _ _ rfl
      refine O.oc 23 rfl ?_
      exact J.r0 rfl rfl ⟨(by rw [Si.chk_badU (by assumption)]; rfl), rfl⟩
  ·
    refine J.co 2 rfl ?_
    refine O.q (Qt.lv 0 A3 rfl rfl rfl) rfl ?_
    refine O.oo 1 rfl ?_
    refine O.q (Qt.lv 0 A3 rfl rfl rfl) rfl ?_
    refine O.l (Lo.ca C24 (lv_NewNo b c h3) [] rfl rfl .nil) rfl ?_
    rintro _ _ ⟨_, ⟨rfl, rfl⟩, rfl⟩
    refine O.oo 3 rfl ?_
    refine O.l (Lo.al Y57 rfl) rfl ?_
    rintro _ _ ⟨g20, rfl, rfl⟩
    refine O.l0 (Lo.st 0 Z57 rfl rfl rfl rfl rfl rfl rfl) ?_
    rintro _ _ rfl
    refine O.oc 3 rfl ?_
    refine by_bool (Si.okU c r) (fun h21 => ?_) (fun h21 => ?_)
    ·
      refine J.co 2 rfl ?_
      refine O.q (Qt.lv 1 A22 rfl rfl rfl) rfl ?_
      refine O.oo 1 rfl ?_
      refine O.q (Qt.lv 1 A3 rfl rfl rfl) rfl ?_
      refine O.oo 1 rfl ?_
      refine O.q (Qt.lv 1 A3 rfl rfl rfl) rfl ?_
      refine O.l (Lo.ca C25 (us_New n c r h21) [] rfl rfl .nil) rfl ?_
      rintro _ _ ⟨_, ⟨rfl, rfl⟩, rfl⟩
      refine O.oo 3 rfl ?_
      refine O.l (Lo.al Y61 rfl) rfl ?_
      rintro _ _ ⟨g23, rfl, rfl⟩
      refine O.l0 (Lo.st 0 Z61 rfl rfl rfl rfl rfl rfl rfl) ?_
      rintro _ _ rfl
      refine O.oc 23 rfl ?_
      exact J.r0 rfl rfl ⟨(by rw [Si.chk_badL (by assumption)]; rfl), rfl⟩
    ·
      refine J.co 2 rfl ?_
      refine O.q (Qt.lv 1 A22 rfl rfl rfl) rfl ?_
      refine O.oo 1 rfl ?_
      refine O.q (Qt.lv 1 A3 rfl rfl rfl) rfl ?_
      refine O.oo 1 rfl ?_
      refine O.q (Qt.lv 1 A3 rfl rfl rfl) rfl ?_
      refine O.l (Lo.ca C25 (us_NewNo n c r h21) [] rfl rfl .nil) rfl ?_
      rintro _ _ ⟨_, ⟨rfl, rfl⟩, rfl⟩
      refine O.oo 3 rfl ?_
      refine O.l (Lo.al Y61 rfl) rfl ?_
      rintro _ _ ⟨g25, rfl, rfl⟩
      refine O.l0 (Lo.st 0 Z61 rfl rfl rfl rfl rfl rfl rfl) ?_
      rintro _ _ rfl
      refine O.oc 23 rfl ?_
      exact J.r0 rfl rfl ⟨(by rw [Si.chk_badL (by assumption)]; rfl), rfl⟩

set_option maxRecDepth 100000 in
set_option maxHeartbeats 2000000 in
theorem r30_Check (b c r : Int) (n : Nat) (sv : Value) (l : List Sg) (hl : l.length ≤ 1000) (hc : ∀ s ∈ l, s.cl.length ≤ 1000) : Tri Tryz.prog 13 #[.agg #[.int .i64 b, .int .i64 c, .int .i64 r, .int .u64 (Nat.cast n : Int), sv]] [rd sv 14 (l.map Sg.cells), ros (l.map Sg.rd)] [] (fun v L' => v = .int .i64 (Si.chk b c r l) ∧ L' = []) := by
  refine Tri.en F13 rfl K13 rfl fun w0 => ?_
  refine J.co 2 rfl ?_
  refine O.one (Src.ro 0 rfl) (fun hV2 => ?_)
  refine O.l (Lo.bx rfl rfl) rfl ?_
  rintro _ _ ⟨g1, rfl, rfl⟩
  refine O.oo 6 rfl ?_
  refine O.q (Qt.lv 0 A3 rfl rfl rfl) rfl ?_
  refine O.oo 1 rfl ?_
  refine O.q (Qt.lv 0 A3 rfl rfl rfl) rfl ?_
  refine O.l (Lo.ca C29 (r08_Right b c) [] rfl rfl .nil) rfl ?_
  rintro _ _ ⟨_, ⟨rfl, rfl⟩, rfl⟩
  refine O.oo 2 rfl ?_
  refine O.sp 10 rfl (fun h4 => ?_) (fun h4 => ?_)
  ·
    have h5 : (Si.okL b c) = false := not_flip h4
    refine O.oc 25 rfl ?_
    exact J.r0 rfl rfl ⟨(by rw [Si.chk_badL (by assumption)]; rfl), rfl⟩
  ·
    have h6 : (Si.okL b c) = true := not_flip h4
    refine O.oo 1 rfl ?_
    refine O.gq (t := 10) rfl rfl rfl rfl (Qt.lv 0 A3 rfl rfl rfl) rfl ?_
    refine O.oo 1 rfl ?_
    refine O.gq (t := 10) rfl rfl rfl rfl (Qt.lv 0 A3 rfl rfl rfl) rfl ?_
    refine O.gl (t := 10) rfl rfl rfl rfl (Lo.ca C30 (r09_Right c r) [] rfl rfl .nil) rfl ?_
    rintro _ _ ⟨_, ⟨rfl, rfl⟩, rfl⟩
    refine O.oo 3 rfl ?_
    refine O.sp 18 rfl (fun h8 => ?_) (fun h8 => ?_)
    ·
      have h9 : (Si.okU c r) = false := not_flip h8
      refine O.oc 17 rfl ?_
      exact J.r0 rfl rfl ⟨(by rw [Si.chk_badU (by assumption)]; rfl), rfl⟩
    ·
      have h10 : (Si.okU c r) = true := not_flip h8
      refine O.oo 1 rfl ?_
      refine O.gq (t := 18) rfl rfl rfl rfl (Qt.lv 0 A23 rfl rfl rfl) rfl ?_
      refine O.gq (t := 18) rfl rfl rfl rfl (Qt.lenM U23 rfl (Src.ro 0 rfl)) rfl ?_
      refine O.oo 3 rfl ?_
      refine O.sd 24 rfl (fun p11 => ?_) (fun p11 => ?_)
      ·
        refine O.oc 11 rfl ?_
        exact J.r0 rfl rfl ⟨(by rcases Nat.lt_or_ge 8 l.length with h_ | h_; (· rw [Si.chk_many h_]; rfl); (· rw [Si.chk_none (by omega)]; rfl)), rfl⟩
      ·
        refine O.oo 1 rfl ?_
        refine O.gq (t := 24) rfl rfl rfl rfl (Qt.lv 0 A23 rfl rfl rfl) rfl ?_
        refine O.gq (t := 24) rfl rfl rfl rfl (Qt.lenM U23 rfl (Src.ro 0 rfl)) rfl ?_
        refine O.oc 3 rfl ?_
        refine J.cd rfl (fun p12 => ?_) (fun p12 => ?_)
        ·
          refine J.cc 4 rfl ?_
          exact J.r0 rfl rfl ⟨(by rcases Nat.lt_or_ge 8 l.length with h_ | h_; (· rw [Si.chk_many h_]; rfl); (· rw [Si.chk_none (by omega)]; rfl)), rfl⟩
        ·
          refine J.cc 7 rfl ?_
          refine J.lo (X := Nat) (fun k => k ≤ l.length ∧ Si.chkN b c l k = true) (fun k => [(3, .int .i64 (k : Int))]) (fun k => []) (fun k => l.length - k) 0 [1] [] [0] ⟨by omega, Si.chkN_zero⟩ ⟨(eqi (by omega)), trivial⟩ rfl rfl ?_
          rintro k ⟨hk, hN⟩
          refine J.co 5 rfl ?_
          refine O.q (Qt.lv 0 A23 rfl rfl rfl) rfl ?_
          refine O.q (Qt.lenM U23 rfl (Src.ro 0 rfl)) rfl ?_
          refine O.oc 2 rfl ?_
          refine J.cd rfl (fun p13 => ?_) (fun p13 => ?_)
          ·
            refine J.cc 4 rfl ?_
            obtain ⟨e14, he14⟩ := ex_at (l := l) (i := k) (by omega)
            refine J.ros 1 rfl (A := rd e14.cv 4 (e14.cl.map Cl.cells)) (List.mem_map.2 ⟨e14, List.mem_of_getElem? he14, rfl⟩) ?_
            refine J.drawTail 14 Tryz.mixed (by kernel_rfl) ?_
            refine S.r 1 rfl ?_
            refine S.q (Qt.lv 0 A23 rfl rfl rfl) rfl ?_
            refine S.r 1 rfl ?_
            refine S.q (Qt.idxM U23 Z47 rfl (Src.ro 0 rfl) rfl (by omega) (by omega)) rfl ?_
            refine S.q (Qt.lea A47 Z47 (Src.ro 0 rfl) he14 0 rfl (by omega) rfl) rfl ?_
            refine S.r 2 rfl ?_
            refine S.q (Qt.lv 0 A23 rfl rfl rfl) rfl ?_
            refine S.q (Qt.lenM U23 rfl (Src.ro 0 rfl)) rfl ?_
            refine S.r 1 rfl ?_
            refine S.q (Qt.lv 0 A3 rfl rfl rfl) rfl ?_
            refine S.r 1 rfl ?_
            refine S.q (Qt.lv 0 A3 rfl rfl rfl) rfl ?_
            refine S.p (Pu.mul' rfl rfl (by first | omega | (have h_ := Si.mul_bnd (by assumption : Si.okL b c = true); omega))) rfl ?_
            refine S.endO ?_
            refine O.l (Lo.ca C31 (r28_Check e14.x0 e14.x1 e14.x2 e14.x3 e14.x4 e14.x5 e14.x6 e14.x7 e14.x8 e14.x9 e14.x10 e14.x11 e14.x12 e14.cv e14.cl (k : Int) (l.length : Int) (b * c) (Nat.le_trans (hc _ (List.mem_of_getElem? (by assumption))) (by decide))) [] rfl rfl (.ro 2 rfl .nil)) rfl ?_
            rintro _ _ ⟨_, ⟨rfl, rfl⟩, rfl⟩
            refine O.oc 2 rfl ?_
            refine J.cd rfl (fun p16 => ?_) (fun p16 => ?_)
            ·
              refine J.cc 4 rfl ?_
              exact J.r0 rfl rfl ⟨(by rw [Si.chk_bad he14 (by assumption)]; rfl), rfl⟩
            ·
              refine J.co 4 rfl ?_
              refine O.p (Pu.add' rfl rfl (by omega)) rfl ?_
              refine O.oc 2 rfl ?_
              exact J.lq (k + 1) [1] [] [0] ⟨by omega, Si.chkN_next hN he14 (Decidable.not_not.1 (by assumption))⟩ (by omega) ⟨(eqi (by omega)), trivial⟩ rfl rfl
          ·
            refine J.co 4 rfl ?_
            refine O.q (Qt.lv 0 A23 rfl rfl rfl) rfl ?_
            refine O.l (Lo.ca C32 (r29_Check sv l hl hc) [] rfl rfl (.ro 0 rfl (.ro 1 rfl .nil))) rfl ?_
            rintro _ _ ⟨_, ⟨rfl, rfl⟩, rfl⟩
            refine O.oc 2 rfl ?_
            exact J.r0 rfl rfl ⟨(by rw [Si.chk_all (by assumption) (by assumption) (by omega) hN (by omega) (by omega)]; rfl), rfl⟩

end Go.Proofs.YtnhfgnnpbipcnaaGreatDoor
