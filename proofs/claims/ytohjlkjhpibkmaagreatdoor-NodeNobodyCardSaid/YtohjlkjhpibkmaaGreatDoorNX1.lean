/-
  Walks, printed by a program of mine (lk.py): each function meets its contract.
-/
import Derived.KernelRfl
import Derived.Test.YtohjlkjhpibkmaaGreatDoorNB1
import Derived.Test.YtohjlkjhpibkmaaGreatDoorNobody0
namespace Go.Proofs.YtohjlkjhpibkmaaGreatDoor
open Go Go.LK
set_option linter.unusedSimpArgs false

set_option maxRecDepth 100000 in
theorem nb_Do (e : Na) : Tri Tryz.prog 12 #[Value.pointer none, .agg #[.int .i64 e.kind, .int .i64 e.id, .int .i64 e.q0, .int .i64 e.q1, .int .i64 e.q2, .int .i64 e.q3, .int .i64 e.q4, .int .i64 e.q5, .int .i64 e.a0, .int .i64 e.a1, .int .i64 e.a2, .int .i64 e.a3, .int .i64 e.a4, .int .i64 e.a5, .int .i64 e.a6, .int .i64 e.p0, .int .i64 e.p1, .int .i64 e.p2, .int .i64 e.p3, .int .i64 e.p4, .int .i64 e.p5, .int .i64 e.p6, .int .i64 e.p7, .int .i64 e.p8]] [] [] (fun v L' => v = .tuple #[.agg #[.slice none 0 0, .slice none 0 0], .int .i64 (Nb.code e.kind)] ∧ L' = []) := by
  refine Tri.en F12 rfl K12 rfl fun w0 => ?_
  refine J.co 2 rfl ?_
  refine O.l (Lo.bx rfl rfl) rfl ?_
  rintro _ _ ⟨g1, rfl, rfl⟩
  refine O.l (Lo.al Y36 rfl) rfl ?_
  rintro _ _ ⟨g2, rfl, rfl⟩
  refine O.oo 6 rfl ?_
  refine O.q (Qt.lv 1 A3 rfl rfl rfl) rfl ?_
  refine O.oc 7 rfl ?_
  refine J.cd rfl (fun p3 => ?_) (fun p3 => ?_)
  ·
    refine J.co 4 rfl ?_
    refine O.q (Qt.lva 1 A41 Z41 rfl rfl rfl) rfl ?_
    refine O.l (Lo.ca C32 (nn_Request e.q0 e.q1 e.q2 e.q3 e.q4 e.q5) [] rfl rfl .nil) rfl ?_
    rintro _ _ ⟨_, ⟨rfl, rfl⟩, rfl⟩
    refine O.oo 2 rfl ?_
    refine O.l0 (Lo.st 0 Z36 rfl rfl rfl rfl rfl rfl rfl) ?_
    rintro _ _ rfl
    refine O.oc 2 rfl ?_
    exact J.rn [_, _] [] rfl ⟨⟨_, _, 0, 0, _, rfl, (Cel.var 0 rfl), rfl, (Cut.agg [Value.slice none 0 0, Value.slice none 0 0] A36 Z36 rfl rfl)⟩, rfl, trivial⟩ rfl ⟨(by first | (rw [Nb.code_in (by omega)]; rfl) | (rw [Nb.code_out (by omega)]; rfl)), rfl⟩
  ·
    refine J.cc 5 rfl ?_
    refine J.cd rfl (fun p5 => ?_) (fun p5 => ?_)
    ·
      refine J.co 4 rfl ?_
      refine O.q (Qt.lv 1 A3 rfl rfl rfl) rfl ?_
      refine O.l (Lo.ca C33 (nn_Done e.id) [] rfl rfl .nil) rfl ?_
      rintro _ _ ⟨_, ⟨rfl, rfl⟩, rfl⟩
      refine O.oo 2 rfl ?_
      refine O.l0 (Lo.st 0 Z36 rfl rfl rfl rfl rfl rfl rfl) ?_
      rintro _ _ rfl
      refine O.oc 2 rfl ?_
      exact J.rn [_, _] [] rfl ⟨⟨_, _, 0, 0, _, rfl, (Cel.var 0 rfl), rfl, (Cut.agg [Value.slice none 0 0, Value.slice none 0 0] A36 Z36 rfl rfl)⟩, rfl, trivial⟩ rfl ⟨(by first | (rw [Nb.code_in (by omega)]; rfl) | (rw [Nb.code_out (by omega)]; rfl)), rfl⟩
    ·
      refine J.cc 5 rfl ?_
      refine J.cd rfl (fun p7 => ?_) (fun p7 => ?_)
      ·
        refine J.co 4 rfl ?_
        refine O.q (Qt.lv 1 A3 rfl rfl rfl) rfl ?_
        refine O.l (Lo.ca C34 (nn_Broken e.id) [] rfl rfl .nil) rfl ?_
        rintro _ _ ⟨_, ⟨rfl, rfl⟩, rfl⟩
        refine O.oo 2 rfl ?_
        refine O.l0 (Lo.st 0 Z36 rfl rfl rfl rfl rfl rfl rfl) ?_
        rintro _ _ rfl
        refine O.oc 2 rfl ?_
        exact J.rn [_, _] [] rfl ⟨⟨_, _, 0, 0, _, rfl, (Cel.var 0 rfl), rfl, (Cut.agg [Value.slice none 0 0, Value.slice none 0 0] A36 Z36 rfl rfl)⟩, rfl, trivial⟩ rfl ⟨(by first | (rw [Nb.code_in (by omega)]; rfl) | (rw [Nb.code_out (by omega)]; rfl)), rfl⟩
      ·
        refine J.cc 5 rfl ?_
        refine J.cd rfl (fun p9 => ?_) (fun p9 => ?_)
        ·
          refine J.co 4 rfl ?_
          refine O.q (Qt.lva 1 A43 Z43 rfl rfl rfl) rfl ?_
          refine O.l (Lo.ca C35 (nn_Reply e.a0 e.a1 e.a2 e.a3 e.a4 e.a5 e.a6) [] rfl rfl .nil) rfl ?_
          rintro _ _ ⟨_, ⟨rfl, rfl⟩, rfl⟩
          refine O.oo 2 rfl ?_
          refine O.l0 (Lo.st 0 Z36 rfl rfl rfl rfl rfl rfl rfl) ?_
          rintro _ _ rfl
          refine O.oc 2 rfl ?_
          exact J.rn [_, _] [] rfl ⟨⟨_, _, 0, 0, _, rfl, (Cel.var 0 rfl), rfl, (Cut.agg [Value.slice none 0 0, Value.slice none 0 0] A36 Z36 rfl rfl)⟩, rfl, trivial⟩ rfl ⟨(by first | (rw [Nb.code_in (by omega)]; rfl) | (rw [Nb.code_out (by omega)]; rfl)), rfl⟩
        ·
          refine J.cc 5 rfl ?_
          refine J.cd rfl (fun p11 => ?_) (fun p11 => ?_)
          ·
            refine J.co 4 rfl ?_
            refine O.q (Qt.lva 1 A47 Z47 rfl rfl rfl) rfl ?_
            refine O.l (Lo.ca C36 (nn_Push e.p0 e.p1 e.p2 e.p3 e.p4 e.p5 e.p6 e.p7 e.p8) [] rfl rfl .nil) rfl ?_
            rintro _ _ ⟨_, ⟨rfl, rfl⟩, rfl⟩
            refine O.oo 2 rfl ?_
            refine O.l0 (Lo.st 0 Z36 rfl rfl rfl rfl rfl rfl rfl) ?_
            rintro _ _ rfl
            refine O.oc 2 rfl ?_
            exact J.rn [_, _] [] rfl ⟨⟨_, _, 0, 0, _, rfl, (Cel.var 0 rfl), rfl, (Cut.agg [Value.slice none 0 0, Value.slice none 0 0] A36 Z36 rfl rfl)⟩, rfl, trivial⟩ rfl ⟨(by first | (rw [Nb.code_in (by omega)]; rfl) | (rw [Nb.code_out (by omega)]; rfl)), rfl⟩
          ·
            refine J.cc 5 rfl ?_
            refine J.cd rfl (fun p13 => ?_) (fun p13 => ?_)
            ·
              refine J.co 3 rfl ?_
              refine O.l (Lo.ca C37 nn_Tick [] rfl rfl .nil) rfl ?_
              rintro _ _ ⟨_, ⟨rfl, rfl⟩, rfl⟩
              refine O.oo 2 rfl ?_
              refine O.l0 (Lo.st 0 Z36 rfl rfl rfl rfl rfl rfl rfl) ?_
              rintro _ _ rfl
              refine O.oc 2 rfl ?_
              exact J.rn [_, _] [] rfl ⟨⟨_, _, 0, 0, _, rfl, (Cel.var 0 rfl), rfl, (Cut.agg [Value.slice none 0 0, Value.slice none 0 0] A36 Z36 rfl rfl)⟩, rfl, trivial⟩ rfl ⟨(by first | (rw [Nb.code_in (by omega)]; rfl) | (rw [Nb.code_out (by omega)]; rfl)), rfl⟩
            ·
              refine J.cc 5 rfl ?_
              refine J.cd rfl (fun p15 => ?_) (fun p15 => ?_)
              ·
                refine J.co 3 rfl ?_
                refine O.l (Lo.ca C38 nn_Restart [] rfl rfl .nil) rfl ?_
                rintro _ _ ⟨_, ⟨rfl, rfl⟩, rfl⟩
                refine O.oo 2 rfl ?_
                refine O.l0 (Lo.st 0 Z36 rfl rfl rfl rfl rfl rfl rfl) ?_
                rintro _ _ rfl
                refine O.oc 2 rfl ?_
                exact J.rn [_, _] [] rfl ⟨⟨_, _, 0, 0, _, rfl, (Cel.var 0 rfl), rfl, (Cut.agg [Value.slice none 0 0, Value.slice none 0 0] A36 Z36 rfl rfl)⟩, rfl, trivial⟩ rfl ⟨(by first | (rw [Nb.code_in (by omega)]; rfl) | (rw [Nb.code_out (by omega)]; rfl)), rfl⟩
              ·
                refine J.co 4 rfl ?_
                refine O.p (Pu.build [] [Value.slice none 0 0, Value.slice none 0 0] #[(0, 1), (1, 1)] U36 Y36 (places36 N36) rfl (by kernel_rfl)) rfl ?_
                refine O.l0 (Lo.st 0 Z36 rfl rfl rfl rfl rfl rfl rfl) ?_
                rintro _ _ rfl
                refine O.oc 2 rfl ?_
                exact J.rn [_, _] [] rfl ⟨⟨_, _, 0, 0, _, rfl, (Cel.var 0 rfl), rfl, (Cut.agg [Value.slice none 0 0, Value.slice none 0 0] A36 Z36 rfl rfl)⟩, rfl, trivial⟩ rfl ⟨(by first | (rw [Nb.code_in (by omega)]; rfl) | (rw [Nb.code_out (by omega)]; rfl)), rfl⟩

set_option maxRecDepth 100000 in
theorem nb_DoOdd (p : Nat) (e : Na) : Tri Tryz.prog 12 #[.pointer (some ⟨p, 0, none⟩), .agg #[.int .i64 e.kind, .int .i64 e.id, .int .i64 e.q0, .int .i64 e.q1, .int .i64 e.q2, .int .i64 e.q3, .int .i64 e.q4, .int .i64 e.q5, .int .i64 e.a0, .int .i64 e.a1, .int .i64 e.a2, .int .i64 e.a3, .int .i64 e.a4, .int .i64 e.a5, .int .i64 e.a6, .int .i64 e.p0, .int .i64 e.p1, .int .i64 e.p2, .int .i64 e.p3, .int .i64 e.p4, .int .i64 e.p5, .int .i64 e.p6, .int .i64 e.p7, .int .i64 e.p8]] [] [var p [Value.pointer none, .int .i64 0, .int .i64 0, .int .i64 0, .int .u64 0, Value.slice none 0 0, .int .i64 0, .int .i64 0, .int .i64 0, .int .i64 0, .int .i64 0, .int .i64 0, .int .i64 0, .int .i64 0, .int .i64 0, .int .i64 0, .int .i64 0, .int .i64 0, .int .i64 0, .int .i64 0, Value.slice none 0 0, .int .i64 0, .int .i64 0, .int .i64 0, .int .i64 0, Value.pointer none, Value.pointer none, Value.pointer none, Value.map none, Value.pointer none, Value.pointer none] 90] (fun v L' => v = .tuple #[.agg #[.slice none 0 0, .slice none 0 0], .int .i64 (Nb.code e.kind)] ∧ L' = [var p [Value.pointer none, .int .i64 0, .int .i64 0, .int .i64 0, .int .u64 0, Value.slice none 0 0, .int .i64 0, .int .i64 0, .int .i64 0, .int .i64 0, .int .i64 0, .int .i64 0, .int .i64 0, .int .i64 0, .int .i64 0, .int .i64 0, .int .i64 0, .int .i64 0, .int .i64 0, .int .i64 0, Value.slice none 0 0, .int .i64 0, .int .i64 0, .int .i64 0, .int .i64 0, Value.pointer none, Value.pointer none, Value.pointer none, Value.map none, Value.pointer none, Value.pointer none] 90]) := by
  refine Tri.en F12 rfl K12 rfl fun w0 => ?_
  refine J.co 2 rfl ?_
  refine O.l (Lo.bx rfl rfl) rfl ?_
  rintro _ _ ⟨g1, rfl, rfl⟩
  refine O.l (Lo.al Y36 rfl) rfl ?_
  rintro _ _ ⟨g2, rfl, rfl⟩
  refine O.oo 6 rfl ?_
  refine O.q (Qt.lv 1 A3 rfl rfl rfl) rfl ?_
  refine O.oc 7 rfl ?_
  refine J.cd rfl (fun p3 => ?_) (fun p3 => ?_)
  ·
    refine J.co 4 rfl ?_
    refine O.q (Qt.lva 1 A41 Z41 rfl rfl rfl) rfl ?_
    refine O.l (Lo.ca C32 (no_Request p e.q0 e.q1 e.q2 e.q3 e.q4 e.q5) [2] rfl rfl .nil) rfl ?_
    rintro _ _ ⟨_, ⟨rfl, rfl⟩, rfl⟩
    refine O.oo 2 rfl ?_
    refine O.l0 (Lo.st 1 Z36 rfl rfl rfl rfl rfl rfl rfl) ?_
    rintro _ _ rfl
    refine O.oc 2 rfl ?_
    exact J.rn [_, _] [0] rfl ⟨⟨_, _, 0, 0, _, rfl, (Cel.var 1 rfl), rfl, (Cut.agg [Value.slice none 0 0, Value.slice none 0 0] A36 Z36 rfl rfl)⟩, rfl, trivial⟩ rfl ⟨(by first | (rw [Nb.code_in (by omega)]; rfl) | (rw [Nb.code_out (by omega)]; rfl)), rfl⟩
  ·
    refine J.cc 5 rfl ?_
    refine J.cd rfl (fun p5 => ?_) (fun p5 => ?_)
    ·
      refine J.co 4 rfl ?_
      refine O.q (Qt.lv 1 A3 rfl rfl rfl) rfl ?_
      refine O.l (Lo.ca C33 (no_Done p e.id) [2] rfl rfl .nil) rfl ?_
      rintro _ _ ⟨_, ⟨rfl, rfl⟩, rfl⟩
      refine O.oo 2 rfl ?_
      refine O.l0 (Lo.st 1 Z36 rfl rfl rfl rfl rfl rfl rfl) ?_
      rintro _ _ rfl
      refine O.oc 2 rfl ?_
      exact J.rn [_, _] [0] rfl ⟨⟨_, _, 0, 0, _, rfl, (Cel.var 1 rfl), rfl, (Cut.agg [Value.slice none 0 0, Value.slice none 0 0] A36 Z36 rfl rfl)⟩, rfl, trivial⟩ rfl ⟨(by first | (rw [Nb.code_in (by omega)]; rfl) | (rw [Nb.code_out (by omega)]; rfl)), rfl⟩
    ·
      refine J.cc 5 rfl ?_
      refine J.cd rfl (fun p7 => ?_) (fun p7 => ?_)
      ·
        refine J.co 4 rfl ?_
        refine O.q (Qt.lv 1 A3 rfl rfl rfl) rfl ?_
        refine O.l (Lo.ca C34 (no_Broken p e.id) [2] rfl rfl .nil) rfl ?_
        rintro _ _ ⟨_, ⟨rfl, rfl⟩, rfl⟩
        refine O.oo 2 rfl ?_
        refine O.l0 (Lo.st 1 Z36 rfl rfl rfl rfl rfl rfl rfl) ?_
        rintro _ _ rfl
        refine O.oc 2 rfl ?_
        exact J.rn [_, _] [0] rfl ⟨⟨_, _, 0, 0, _, rfl, (Cel.var 1 rfl), rfl, (Cut.agg [Value.slice none 0 0, Value.slice none 0 0] A36 Z36 rfl rfl)⟩, rfl, trivial⟩ rfl ⟨(by first | (rw [Nb.code_in (by omega)]; rfl) | (rw [Nb.code_out (by omega)]; rfl)), rfl⟩
      ·
        refine J.cc 5 rfl ?_
        refine J.cd rfl (fun p9 => ?_) (fun p9 => ?_)
        ·
          refine J.co 4 rfl ?_
          refine O.q (Qt.lva 1 A43 Z43 rfl rfl rfl) rfl ?_
          refine O.l (Lo.ca C35 (no_Reply p e.a0 e.a1 e.a2 e.a3 e.a4 e.a5 e.a6) [2] rfl rfl .nil) rfl ?_
          rintro _ _ ⟨_, ⟨rfl, rfl⟩, rfl⟩
          refine O.oo 2 rfl ?_
          refine O.l0 (Lo.st 1 Z36 rfl rfl rfl rfl rfl rfl rfl) ?_
          rintro _ _ rfl
          refine O.oc 2 rfl ?_
          exact J.rn [_, _] [0] rfl ⟨⟨_, _, 0, 0, _, rfl, (Cel.var 1 rfl), rfl, (Cut.agg [Value.slice none 0 0, Value.slice none 0 0] A36 Z36 rfl rfl)⟩, rfl, trivial⟩ rfl ⟨(by first | (rw [Nb.code_in (by omega)]; rfl) | (rw [Nb.code_out (by omega)]; rfl)), rfl⟩
        ·
          refine J.cc 5 rfl ?_
          refine J.cd rfl (fun p11 => ?_) (fun p11 => ?_)
          ·
            refine J.co 4 rfl ?_
            refine O.q (Qt.lva 1 A47 Z47 rfl rfl rfl) rfl ?_
            refine O.l (Lo.ca C36 (no_Push p e.p0 e.p1 e.p2 e.p3 e.p4 e.p5 e.p6 e.p7 e.p8) [2] rfl rfl .nil) rfl ?_
            rintro _ _ ⟨_, ⟨rfl, rfl⟩, rfl⟩
            refine O.oo 2 rfl ?_
            refine O.l0 (Lo.st 1 Z36 rfl rfl rfl rfl rfl rfl rfl) ?_
            rintro _ _ rfl
            refine O.oc 2 rfl ?_
            exact J.rn [_, _] [0] rfl ⟨⟨_, _, 0, 0, _, rfl, (Cel.var 1 rfl), rfl, (Cut.agg [Value.slice none 0 0, Value.slice none 0 0] A36 Z36 rfl rfl)⟩, rfl, trivial⟩ rfl ⟨(by first | (rw [Nb.code_in (by omega)]; rfl) | (rw [Nb.code_out (by omega)]; rfl)), rfl⟩
          ·
            refine J.cc 5 rfl ?_
            refine J.cd rfl (fun p13 => ?_) (fun p13 => ?_)
            ·
              refine J.co 3 rfl ?_
              refine O.l (Lo.ca C37 (no_Tick p) [2] rfl rfl .nil) rfl ?_
              rintro _ _ ⟨_, ⟨rfl, rfl⟩, rfl⟩
              refine O.oo 2 rfl ?_
              refine O.l0 (Lo.st 1 Z36 rfl rfl rfl rfl rfl rfl rfl) ?_
              rintro _ _ rfl
              refine O.oc 2 rfl ?_
              exact J.rn [_, _] [0] rfl ⟨⟨_, _, 0, 0, _, rfl, (Cel.var 1 rfl), rfl, (Cut.agg [Value.slice none 0 0, Value.slice none 0 0] A36 Z36 rfl rfl)⟩, rfl, trivial⟩ rfl ⟨(by first | (rw [Nb.code_in (by omega)]; rfl) | (rw [Nb.code_out (by omega)]; rfl)), rfl⟩
            ·
              refine J.cc 5 rfl ?_
              refine J.cd rfl (fun p15 => ?_) (fun p15 => ?_)
              ·
                refine J.co 3 rfl ?_
                refine O.l (Lo.ca C38 (no_Restart p) [2] rfl rfl .nil) rfl ?_
                rintro _ _ ⟨_, ⟨rfl, rfl⟩, rfl⟩
                refine O.oo 2 rfl ?_
                refine O.l0 (Lo.st 1 Z36 rfl rfl rfl rfl rfl rfl rfl) ?_
                rintro _ _ rfl
                refine O.oc 2 rfl ?_
                exact J.rn [_, _] [0] rfl ⟨⟨_, _, 0, 0, _, rfl, (Cel.var 1 rfl), rfl, (Cut.agg [Value.slice none 0 0, Value.slice none 0 0] A36 Z36 rfl rfl)⟩, rfl, trivial⟩ rfl ⟨(by first | (rw [Nb.code_in (by omega)]; rfl) | (rw [Nb.code_out (by omega)]; rfl)), rfl⟩
              ·
                refine J.co 4 rfl ?_
                refine O.p (Pu.build [] [Value.slice none 0 0, Value.slice none 0 0] #[(0, 1), (1, 1)] U36 Y36 (places36 N36) rfl (by kernel_rfl)) rfl ?_
                refine O.l0 (Lo.st 0 Z36 rfl rfl rfl rfl rfl rfl rfl) ?_
                rintro _ _ rfl
                refine O.oc 2 rfl ?_
                exact J.rn [_, _] [2] rfl ⟨⟨_, _, 0, 0, _, rfl, (Cel.var 0 rfl), rfl, (Cut.agg [Value.slice none 0 0, Value.slice none 0 0] A36 Z36 rfl rfl)⟩, rfl, trivial⟩ rfl ⟨(by first | (rw [Nb.code_in (by omega)]; rfl) | (rw [Nb.code_out (by omega)]; rfl)), rfl⟩

end Go.Proofs.YtohjlkjhpibkmaaGreatDoor
