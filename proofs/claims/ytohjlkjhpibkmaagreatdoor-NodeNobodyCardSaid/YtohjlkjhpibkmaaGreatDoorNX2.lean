/-
  Walks, printed by a program of mine (lk.py): each function meets its contract.
-/
import Derived.KernelRfl
import Derived.Test.YtohjlkjhpibkmaaGreatDoorNB6
import Derived.Test.YtohjlkjhpibkmaaGreatDoorNX1
namespace Go.Proofs.YtohjlkjhpibkmaaGreatDoor
open Go Go.LK
set_option linter.unusedSimpArgs false

set_option maxRecDepth 100000 in
theorem law35_nodeNobody (lv : Value) (l : List Na) : Tri Tryz.prog 8 #[lv] [rd lv 24 (l.map Na.cells)] [] (fun v L' => v = .bool true ∧ L' = []) := by
  refine Tri.en F8 rfl K8 rfl fun w0 => ?_
  refine J.co 8 rfl ?_
  refine O.q (Qt.lenM U26 rfl (Src.ro 0 rfl)) rfl ?_
  refine O.oc 2 rfl ?_
  refine J.cd rfl (fun p1 => ?_) (fun p1 => ?_)
  ·
    refine J.co 2 rfl ?_
    refine O.l (Lo.ca C10 law35_awake [] rfl rfl .nil) rfl ?_
    rintro _ _ ⟨_, ⟨rfl, rfl⟩, rfl⟩
    refine O.oc 2 rfl ?_
    exact J.r0 rfl rfl ⟨rfl, rfl⟩
  ·
    refine J.co 7 rfl ?_
    refine O.p (Pu.build [] [Value.pointer none, .int .i64 0, .int .i64 0, .int .i64 0, .int .u64 0, Value.slice none 0 0, .int .i64 0, .int .i64 0, .int .i64 0, .int .i64 0, .int .i64 0, .int .i64 0, .int .i64 0, .int .i64 0, .int .i64 0, .int .i64 0, .int .i64 0, .int .i64 0, .int .i64 0, .int .i64 0, Value.slice none 0 0, .int .i64 0, .int .i64 0, .int .i64 0, .int .i64 0, Value.pointer none, Value.pointer none, Value.pointer none, Value.map none, Value.pointer none, Value.pointer none] #[(0, 1), (1, 5), (6, 1), (7, 14), (21, 1), (22, 1), (23, 1), (24, 1), (25, 1), (26, 1), (27, 1), (28, 1), (29, 1), (30, 1)] U90 Y90 (places90 N90) rfl (by kernel_rfl)) rfl ?_
    refine O.l (Lo.bx rfl rfl) rfl ?_
    rintro _ _ ⟨g3, rfl, rfl⟩
    refine O.oc 8 rfl ?_
    refine J.lo (X := Nat) (fun i => i ≤ l.length) (fun i => [(5, .int .i64 (i : Int))]) (fun i => []) (fun i => l.length - i) 0 [0, 3, 4] [] [0] (by omega) ⟨(eqi (by omega)), trivial⟩ rfl rfl ?_
    rintro i hi
    try dsimp only at hi
    refine J.co 5 rfl ?_
    refine O.q (Qt.lenM U26 rfl (Src.ro 0 rfl)) rfl ?_
    refine O.oc 2 rfl ?_
    refine J.cd rfl (fun p4 => ?_) (fun p4 => ?_)
    ·
      refine J.co 8 rfl ?_
      obtain ⟨e5, he5⟩ := ex_at (l := l) (i := i) (by omega)
      refine O.q (Qt.ix U26 Z49 rfl (Src.ro 0 rfl) he5 rfl (by rfl)) rfl ?_
      refine O.q (Qt.lea A49 Z49 (Src.ro 0 rfl) he5 0 rfl (by omega) rfl) rfl ?_
      refine O.l (Lo.ca C12 (nb_Do e5) [] rfl rfl .nil) rfl ?_
      rintro _ _ ⟨_, ⟨rfl, rfl⟩, rfl⟩
      refine O.oo 3 rfl ?_
      refine O.l (Lo.al Y36 rfl) rfl ?_
      rintro _ _ ⟨g7, rfl, rfl⟩
      refine O.l0 (Lo.st 0 Z36 rfl rfl rfl rfl rfl rfl rfl) ?_
      rintro _ _ rfl
      refine O.oo 7 rfl ?_
      refine O.q (Qt.ix U26 Z49 rfl (Src.ro 0 rfl) he5 rfl (by rfl)) rfl ?_
      refine O.q (Qt.lea A49 Z49 (Src.ro 0 rfl) he5 0 rfl (by omega) rfl) rfl ?_
      refine O.l (Lo.ca C12 (nb_DoOdd g3 e5) [1] rfl rfl .nil) rfl ?_
      rintro _ _ ⟨_, ⟨rfl, rfl⟩, rfl⟩
      refine O.oo 3 rfl ?_
      refine O.l (Lo.al Y36 rfl) rfl ?_
      rintro _ _ ⟨g9, rfl, rfl⟩
      refine O.l0 (Lo.st 0 Z36 rfl rfl rfl rfl rfl rfl rfl) ?_
      rintro _ _ rfl
      refine O.oo 6 rfl ?_
      refine O.q (Qt.ix U26 Z49 rfl (Src.ro 0 rfl) he5 rfl (by rfl)) rfl ?_
      refine O.oo 1 rfl ?_
      refine O.q (Qt.le A3 (Src.ro 0 rfl) he5 0 rfl (by omega) rfl) rfl ?_
      refine O.oo 2 rfl ?_
      refine O.sd 47 rfl (fun p10 => ?_) (fun p10 => ?_)
      ·
        refine O.oo 2 rfl ?_
        refine O.gz (Qt.ix U26 Z49 rfl (Src.ro 0 rfl) he5 rfl (by rfl)) rfl rfl ?_
        refine O.oo 1 rfl ?_
        refine O.gz (Qt.le A3 (Src.ro 0 rfl) he5 0 rfl (by omega) rfl) rfl rfl ?_
        refine O.oo 6 rfl ?_
        refine O.q (Qt.lva 2 A36 Z36 rfl rfl rfl) rfl ?_
        refine O.p (Pu.build [] [Value.slice none 0 0, Value.slice none 0 0] #[(0, 1), (1, 1)] U36 Y36 (places36 N36) rfl (by kernel_rfl)) rfl ?_
        refine O.l (Lo.ca C27 r35_same00 [] rfl rfl .nil) rfl ?_
        rintro _ _ ⟨_, ⟨rfl, rfl⟩, rfl⟩
        refine O.oo 2 rfl ?_
        refine O.gz (Qt.lva 0 A36 Z36 rfl rfl rfl) rfl rfl ?_
        refine O.gz (Pu.qt (Pu.build [] [Value.slice none 0 0, Value.slice none 0 0] #[(0, 1), (1, 1)] U36 Y36 (places36 N36) rfl (by kernel_rfl))) rfl rfl ?_
        refine O.gy (Lo.ca C27 r35_same00 [] rfl rfl .nil) rfl rfl ?_
        rintro _ _ ⟨_, ⟨rfl, rfl⟩, rfl⟩
        refine O.oo 6 rfl ?_
        refine O.gz (Pu.qt (Pu.bneq N4 rfl rfl)) rfl rfl ?_
        refine O.oo 2 rfl ?_
        refine O.sp 71 rfl (fun h13 => ?_) (fun h13 => ?_)
        ·
          exact absurd h13 (by first | exact Nb.dead_in (by assumption) | exact Nb.dead_out (by assumption))
        ·
          refine O.oo 3 rfl ?_
          refine O.gz (Pu.qt (Pu.bneq N4 rfl rfl)) rfl rfl ?_
          refine O.oc 2 rfl ?_
          refine J.condF rfl h13 ?_
          refine J.co 4 rfl ?_
          refine O.p (Pu.add' rfl rfl (by omega)) rfl ?_
          refine O.oc 2 rfl ?_
          exact J.lq (i + 1) [0, 3, 4] [] [1] (by omega) (by omega) ⟨(eqi (by omega)), trivial⟩ rfl rfl
      ·
        refine O.oo 11 rfl ?_
        refine O.q (Qt.lva 2 A36 Z36 rfl rfl rfl) rfl ?_
        refine O.p (Pu.build [] [Value.slice none 0 0, Value.slice none 0 0] #[(0, 1), (1, 1)] U36 Y36 (places36 N36) rfl (by kernel_rfl)) rfl ?_
        refine O.l (Lo.ca C27 r35_same00 [] rfl rfl .nil) rfl ?_
        rintro _ _ ⟨_, ⟨rfl, rfl⟩, rfl⟩
        refine O.oo 2 rfl ?_
        refine O.gz (Qt.lva 0 A36 Z36 rfl rfl rfl) rfl rfl ?_
        refine O.gz (Pu.qt (Pu.build [] [Value.slice none 0 0, Value.slice none 0 0] #[(0, 1), (1, 1)] U36 Y36 (places36 N36) rfl (by kernel_rfl))) rfl rfl ?_
        refine O.gy (Lo.ca C27 r35_same00 [] rfl rfl .nil) rfl rfl ?_
        rintro _ _ ⟨_, ⟨rfl, rfl⟩, rfl⟩
        refine O.oo 6 rfl ?_
        refine O.gz (Pu.qt (Pu.bneq N4 rfl rfl)) rfl rfl ?_
        refine O.oo 2 rfl ?_
        refine O.sp 71 rfl (fun h16 => ?_) (fun h16 => ?_)
        ·
          exact absurd h16 (by first | exact Nb.dead_in (by assumption) | exact Nb.dead_out (by assumption))
        ·
          refine O.oo 3 rfl ?_
          refine O.gz (Pu.qt (Pu.bneq N4 rfl rfl)) rfl rfl ?_
          refine O.oc 2 rfl ?_
          refine J.condF rfl h16 ?_
          refine J.co 4 rfl ?_
          refine O.p (Pu.add' rfl rfl (by omega)) rfl ?_
          refine O.oc 2 rfl ?_
          exact J.lq (i + 1) [0, 3, 4] [] [1] (by omega) (by omega) ⟨(eqi (by omega)), trivial⟩ rfl rfl
    ·
      refine J.cc 2 rfl ?_
      refine J.nr 3 1 (([] : List Int).map encZ) rfl ?_
      refine J.co 2 rfl ?_
      refine O.l (Lo.ca C28 nn_Now [] rfl rfl .nil) rfl ?_
      rintro _ _ ⟨_, ⟨rfl, rfl⟩, rfl⟩
      refine O.oo 1 rfl ?_
      refine O.l (Lo.ca C28 (no_Now g3) [1] rfl rfl .nil) rfl ?_
      rintro _ _ ⟨_, ⟨rfl, rfl⟩, rfl⟩
      refine O.p (Pu.add' rfl rfl (by omega)) rfl ?_
      refine O.oo 1 rfl ?_
      refine O.l (Lo.ca C29 nn_Version [] rfl rfl .nil) rfl ?_
      rintro _ _ ⟨_, ⟨rfl, rfl⟩, rfl⟩
      refine O.p (Pu.add' rfl rfl (by omega)) rfl ?_
      refine O.oo 1 rfl ?_
      refine O.l (Lo.ca C18 nn_Threshold [] rfl rfl .nil) rfl ?_
      rintro _ _ ⟨_, ⟨rfl, rfl⟩, rfl⟩
      refine O.p (Pu.add' rfl rfl (by omega)) rfl ?_
      refine O.oo 1 rfl ?_
      refine O.l (Lo.ca C18 (no_Threshold g3) [0] rfl rfl .nil) rfl ?_
      rintro _ _ ⟨_, ⟨rfl, rfl⟩, rfl⟩
      refine O.p (Pu.add' rfl rfl (by omega)) rfl ?_
      refine O.oo 1 rfl ?_
      refine O.l (Lo.ca C19 nn_Tier [] rfl rfl .nil) rfl ?_
      rintro _ _ ⟨_, ⟨rfl, rfl⟩, rfl⟩
      refine O.p (Pu.add' rfl rfl (by omega)) rfl ?_
      refine O.oo 1 rfl ?_
      refine O.l (Lo.ca C19 (no_Tier g3) [0] rfl rfl .nil) rfl ?_
      rintro _ _ ⟨_, ⟨rfl, rfl⟩, rfl⟩
      refine O.p (Pu.add' rfl rfl (by omega)) rfl ?_
      refine O.oo 1 rfl ?_
      refine O.l (Lo.ca C17 nn_Epoch [] rfl rfl .nil) rfl ?_
      rintro _ _ ⟨_, ⟨rfl, rfl⟩, rfl⟩
      refine O.p (Pu.add' rfl rfl (by omega)) rfl ?_
      refine O.oo 1 rfl ?_
      refine O.l (Lo.ca C17 (no_Epoch g3) [0] rfl rfl .nil) rfl ?_
      rintro _ _ ⟨_, ⟨rfl, rfl⟩, rfl⟩
      refine O.p (Pu.add' rfl rfl (by omega)) rfl ?_
      refine O.oo 1 rfl ?_
      refine O.l (Lo.ca C30 nn_Calm [] rfl rfl .nil) rfl ?_
      rintro _ _ ⟨_, ⟨rfl, rfl⟩, rfl⟩
      refine O.p (Pu.add' rfl rfl (by omega)) rfl ?_
      refine O.oo 1 rfl ?_
      refine O.l (Lo.ca C30 (no_Calm g3) [0] rfl rfl .nil) rfl ?_
      rintro _ _ ⟨_, ⟨rfl, rfl⟩, rfl⟩
      refine O.p (Pu.add' rfl rfl (by omega)) rfl ?_
      refine O.oo 1 rfl ?_
      refine O.l (Lo.ca C13 nn_Queue [] rfl rfl .nil) rfl ?_
      rintro _ _ ⟨_, ⟨rfl, rfl⟩, rfl⟩
      refine O.q (Qt.lenM U52 rfl (Src.row 1 rfl)) rfl ?_
      refine O.p (Pu.add' rfl rfl (by first | omega | (simp only [List.length_append, List.length_cons, List.length_nil, List.length_set]; omega))) rfl ?_
      refine O.oo 1 rfl ?_
      refine O.l (Lo.ca C13 (no_Queue g3) [0] rfl rfl .nil) rfl ?_
      rintro _ _ ⟨_, ⟨rfl, rfl⟩, rfl⟩
      refine O.q (Qt.lenM U52 rfl (Src.row 1 rfl)) rfl ?_
      refine O.p (Pu.add' rfl rfl (by first | omega | (simp only [List.length_append, List.length_cons, List.length_nil, List.length_set]; omega))) rfl ?_
      refine O.oo 1 rfl ?_
      refine O.l (Lo.ca C14 nn_Jobs [] rfl rfl .nil) rfl ?_
      rintro _ _ ⟨_, ⟨rfl, rfl⟩, rfl⟩
      refine O.q (Qt.lenM U57 rfl (Src.row 1 rfl)) rfl ?_
      refine O.p (Pu.add' rfl rfl (by first | omega | (simp only [List.length_append, List.length_cons, List.length_nil, List.length_set]; omega))) rfl ?_
      refine O.oo 1 rfl ?_
      refine O.l (Lo.ca C14 (no_Jobs g3) [0] rfl rfl .nil) rfl ?_
      rintro _ _ ⟨_, ⟨rfl, rfl⟩, rfl⟩
      refine O.q (Qt.lenM U57 rfl (Src.row 1 rfl)) rfl ?_
      refine O.p (Pu.add' rfl rfl (by first | omega | (simp only [List.length_append, List.length_cons, List.length_nil, List.length_set]; omega))) rfl ?_
      refine O.oo 1 rfl ?_
      refine O.l (Lo.ca C21 nn_Known [] rfl rfl .nil) rfl ?_
      rintro _ _ ⟨_, ⟨rfl, rfl⟩, rfl⟩
      refine O.q (Qt.lenM U71 rfl (Src.row 1 rfl)) rfl ?_
      refine O.p (Pu.add' rfl rfl (by first | omega | (simp only [List.length_append, List.length_cons, List.length_nil, List.length_set]; omega))) rfl ?_
      refine O.oo 1 rfl ?_
      refine O.l (Lo.ca C21 (no_Known g3) [0] rfl rfl .nil) rfl ?_
      rintro _ _ ⟨_, ⟨rfl, rfl⟩, rfl⟩
      refine O.q (Qt.lenM U71 rfl (Src.row 1 rfl)) rfl ?_
      refine O.p (Pu.add' rfl rfl (by first | omega | (simp only [List.length_append, List.length_cons, List.length_nil, List.length_set]; omega))) rfl ?_
      refine O.oo 1 rfl ?_
      refine O.l (Lo.ca C22 nn_Seen [] rfl rfl .nil) rfl ?_
      rintro _ _ ⟨_, ⟨rfl, rfl⟩, rfl⟩
      refine O.q (Qt.lenM U60 rfl (Src.row 1 rfl)) rfl ?_
      refine O.p (Pu.add' rfl rfl (by first | omega | (simp only [List.length_append, List.length_cons, List.length_nil, List.length_set]; omega))) rfl ?_
      refine O.oo 1 rfl ?_
      refine O.l (Lo.ca C22 (no_Seen g3) [0] rfl rfl .nil) rfl ?_
      rintro _ _ ⟨_, ⟨rfl, rfl⟩, rfl⟩
      refine O.q (Qt.lenM U60 rfl (Src.row 1 rfl)) rfl ?_
      refine O.p (Pu.add' rfl rfl (by first | omega | (simp only [List.length_append, List.length_cons, List.length_nil, List.length_set]; omega))) rfl ?_
      refine O.oo 2 rfl ?_
      refine O.sd 142 rfl (fun p36 => ?_) (fun p36 => ?_)
      ·
        refine O.gy (Lo.ca C10 law35_awake [] rfl rfl .nil) rfl rfl ?_
        rintro _ _ ⟨_, ⟨rfl, rfl⟩, rfl⟩
        refine O.oc 3 rfl ?_
        exact J.r0 rfl rfl ⟨rfl, rfl⟩
      ·
        exact (of_decide_eq_false (decide_eq_false p36) (by simp)).elim

end Go.Proofs.YtohjlkjhpibkmaaGreatDoor
