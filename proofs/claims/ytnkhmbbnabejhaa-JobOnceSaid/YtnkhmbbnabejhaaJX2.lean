/-
  Walks, printed by a program of mine (lk.py): each function meets its contract.
-/
import Derived.KernelRfl
import Derived.Test.YtnkhmbbnabejhaaJX1
namespace Go.Proofs.Ytnkhmbbnabejhaa
open Go Go.LK
set_option linter.unusedSimpArgs false

set_option maxRecDepth 100000 in
theorem jb_HeardNo (x0 x1 x2 x3 x4 x5 x6 : Int) (ph : Int) (jv : Value) (l : List Int) (c code : Int) (hl : l.length ≤ 1000) (hm : ph ≠ 2 ∨ c ∉ l) : Tri Try.prog 14 #[.agg #[.int .i64 x0, .int .i64 x1, .int .i64 x2, .int .i64 x3, .int .i64 x4, .int .i64 x5, .int .i64 x6, .int .i64 ph, jv], .int .i64 c, .int .i64 code] [rd jv 1 (l.map encZ)] [] (fun v L' => ∃ V', v = .tuple #[.agg #[.int .i64 x0, .int .i64 x1, .int .i64 x2, .int .i64 x3, .int .i64 x4, .int .i64 x5, .int .i64 x6, .int .i64 ph, V'], .int .i64 0] ∧ L' = [row V' 3 1 (l.map encZ)]) := by
  refine Tri.enter (args := [.agg #[.int .i64 x0, .int .i64 x1, .int .i64 x2, .int .i64 x3, .int .i64 x4, .int .i64 x5, .int .i64 x6, .int .i64 ph, jv], .int .i64 c, .int .i64 code]) (body := _) 49 Try.func14 rfl Try.ntmps14 rfl ?_
  intro w0
  refine J.seq ?_
  refine J.region ?_
  refine O.one (Src.ro 0 rfl) (fun hV2 => ?_)
  refine O.l (Lo.box [.int .i64 x0, .int .i64 x1, .int .i64 x2, .int .i64 x3, .int .i64 x4, .int .i64 x5, .int .i64 x6, .int .i64 ph, jv] rfl rfl) rfl ?_
  rintro _ _ ⟨g1, rfl, rfl⟩
  refine O.l (Lo.alloc [.int .i64 0, .int .i64 0, .int .i64 0, .int .i64 0, .int .i64 0, .int .i64 0, .int .i64 0, .int .i64 0, Value.slice none 0 0] (by exact Try.zeroValue28) rfl) rfl ?_
  rintro _ _ ⟨g3, rfl, rfl⟩
  refine O.p (Pu.assign rfl) rfl ?_
  refine O.nil ?_
  refine J.seq ?_
  refine J.region ?_
  refine O.p (Pu.fieldAddr (off' := 8) Try.runUnderlying28 rfl Try.sizeOf24 rfl rfl rfl) rfl ?_
  refine O.q (Qt.ld rfl (Cel.var 1 rfl) (o := 0) (off := 8) rfl (Cut.one Try.isAgg24 rfl)) rfl ?_
  refine O.p (Pu.move rfl) rfl ?_
  refine O.l (Lo.call [jv, .int .i64 c] (by exact Try.call56) rfl (s_Index jv l c (by omega)) [] [0, 1] (by decide) rfl [var g3 [.int .i64 0, .int .i64 0, .int .i64 0, .int .i64 0, .int .i64 0, .int .i64 0, .int .i64 0, .int .i64 0, Value.slice none 0 0] 28, var g1 [.int .i64 x0, .int .i64 x1, .int .i64 x2, .int .i64 x3, .int .i64 x4, .int .i64 x5, .int .i64 x6, .int .i64 ph, jv] 28] rfl (RoOk.ro 0 rfl [] rfl RoOk.nil)) rfl ?_
  rintro _ _ ⟨_, ⟨k4, rfl, hx5, rfl⟩, rfl⟩
  refine O.p (Pu.assign rfl) rfl ?_
  refine O.nil ?_
  refine J.seq ?_
  refine J.seq ?_
  refine J.region ?_
  refine O.p (Pu.fieldAddr (off' := 7) Try.runUnderlying28 rfl Try.sizeOf3 rfl rfl rfl) rfl ?_
  refine O.q (Qt.ld rfl (Cel.var 1 rfl) (o := 0) (off := 7) rfl (Cut.one Try.isAgg3 rfl)) rfl ?_
  refine O.p (Pu.neq rfl rfl) rfl ?_
  refine O.p (Pu.move rfl) rfl ?_
  refine by_bool (decide (ph ≠ 2)) (fun h7 => ?_) (fun h7 => ?_)
  ·
    have p8 := of_decide_eq_true h7
    refine O.gskip (t := 17) rfl rfl (no_bool (by rw [h7]; decide)) rfl rfl ?_
    refine O.gskip (t := 17) rfl rfl (no_bool (by rw [h7]; decide)) rfl rfl ?_
    refine O.p (Pu.pickT rfl h7 rfl) rfl ?_
    refine O.nil ?_
    refine J.condT rfl rfl ?_
    refine J.seq ?_
    refine J.region ?_
    refine O.p (Pu.fieldAddr (off' := 8) Try.runUnderlying28 rfl Try.sizeOf24 rfl rfl rfl) rfl ?_
    refine O.q (Qt.ld rfl (Cel.var 1 rfl) (o := 0) (off := 8) rfl (Cut.one Try.isAgg24 rfl)) rfl ?_
    refine O.nilRow 3 1 ?_
    show O _ _ _ _ _ [row (Value.slice none 0 0) 3 1 (([] : List Int).map encZ), var g3 [.int .i64 0, .int .i64 0, .int .i64 0, .int .i64 0, .int .i64 0, .int .i64 0, .int .i64 0, .int .i64 0, Value.slice none 0 0] 28, var g1 [.int .i64 x0, .int .i64 x1, .int .i64 x2, .int .i64 x3, .int .i64 x4, .int .i64 x5, .int .i64 x6, .int .i64 ph, jv] 28]
    refine O.l (Lo.appendM (s := 1) 0 (by exact Try.underlying24) (by exact (info3).1) (by exact (info3).2.1) (by exact (info3).2.2.1) (by exact (info3).2.2.2) rfl rfl rfl rfl rfl (Src.ro 0 rfl) encZ.one (by first | omega | (simp only [List.length_append, List.length_cons, List.length_nil]; omega)) (by first | omega | (simp only [List.length_append, List.length_cons, List.length_nil]; omega))) rfl ?_
    rintro V9 _ rfl
    refine O.p (Pu.fieldAddr (off' := 8) Try.runUnderlying28 rfl Try.sizeOf24 rfl rfl rfl) rfl ?_
    refine O.one (Src.row 0 rfl) (fun hV10 => ?_)
    refine O.l0 (Lo.store 2 (vs := [V9]) [.int .i64 x0, .int .i64 x1, .int .i64 x2, .int .i64 x3, .int .i64 x4, .int .i64 x5, .int .i64 x6, .int .i64 ph, V9] rfl rfl rfl (by exact Try.sizeOf24) (one_cells hV10) rfl (one_all hV10) rfl rfl) ?_
    rintro _ _ rfl
    refine O.nil ?_
    refine J.seq ?_
    refine J.region ?_
    refine O.q (Qt.ld rfl (Cel.var 2 rfl) (o := 0) (off := 0) rfl (Cut.agg [.int .i64 x0, .int .i64 x1, .int .i64 x2, .int .i64 x3, .int .i64 x4, .int .i64 x5, .int .i64 x6, .int .i64 ph, V9] Try.isAgg28 Try.sizeOf28 rfl rfl)) rfl ?_
    refine O.l0 (Lo.store 1 (vs := [.int .i64 x0, .int .i64 x1, .int .i64 x2, .int .i64 x3, .int .i64 x4, .int .i64 x5, .int .i64 x6, .int .i64 ph, V9]) [.int .i64 x0, .int .i64 x1, .int .i64 x2, .int .i64 x3, .int .i64 x4, .int .i64 x5, .int .i64 x6, .int .i64 ph, V9] rfl rfl rfl (by exact Try.sizeOf28) rfl rfl (by simp only [List.all_cons, List.all_nil, Bool.and_true, hV10] <;> rfl) rfl rfl) ?_
    rintro _ _ rfl
    refine O.p (Pu.assign rfl) rfl ?_
    refine O.nil ?_
    exact J.ret (Fin.ret (rs := [.cell 6 28, .tmp 7]) rfl [_, _] ⟨⟨_, _, 0, 0, _, rfl, (Cel.var 1 rfl), rfl, (Cut.agg [.int .i64 x0, .int .i64 x1, .int .i64 x2, .int .i64 x3, .int .i64 x4, .int .i64 x5, .int .i64 x6, .int .i64 ph, V9] Try.isAgg28 Try.sizeOf28 rfl rfl)⟩, rfl, trivial⟩ [0] (by decide) [row V9 3 1 ((([] : List Int) ++ l).map encZ)] rfl ⟨V9, rfl, rfl⟩)
  ·
    have p11 := of_decide_eq_false h7
    refine O.gq (t := 17) rfl rfl h7 rfl (Pu.qt (Pu.move rfl)) rfl ?_
    refine O.gq (t := 17) rfl rfl h7 rfl (Pu.qt (Pu.lss rfl rfl)) rfl ?_
    refine O.p (Pu.pickF rfl h7 rfl) rfl ?_
    refine O.nil ?_
    refine J.cond rfl (fun h12 => ?_) (fun h12 => ?_)
    ·
      have p13 := of_decide_eq_true h12
      refine J.seq ?_
      refine J.region ?_
      refine O.p (Pu.fieldAddr (off' := 8) Try.runUnderlying28 rfl Try.sizeOf24 rfl rfl rfl) rfl ?_
      refine O.q (Qt.ld rfl (Cel.var 1 rfl) (o := 0) (off := 8) rfl (Cut.one Try.isAgg24 rfl)) rfl ?_
      refine O.nilRow 3 1 ?_
      show O _ _ _ _ _ [row (Value.slice none 0 0) 3 1 (([] : List Int).map encZ), var g3 [.int .i64 0, .int .i64 0, .int .i64 0, .int .i64 0, .int .i64 0, .int .i64 0, .int .i64 0, .int .i64 0, Value.slice none 0 0] 28, var g1 [.int .i64 x0, .int .i64 x1, .int .i64 x2, .int .i64 x3, .int .i64 x4, .int .i64 x5, .int .i64 x6, .int .i64 ph, jv] 28]
      refine O.l (Lo.appendM (s := 1) 0 (by exact Try.underlying24) (by exact (info3).1) (by exact (info3).2.1) (by exact (info3).2.2.1) (by exact (info3).2.2.2) rfl rfl rfl rfl rfl (Src.ro 0 rfl) encZ.one (by first | omega | (simp only [List.length_append, List.length_cons, List.length_nil]; omega)) (by first | omega | (simp only [List.length_append, List.length_cons, List.length_nil]; omega))) rfl ?_
      rintro V14 _ rfl
      refine O.p (Pu.fieldAddr (off' := 8) Try.runUnderlying28 rfl Try.sizeOf24 rfl rfl rfl) rfl ?_
      refine O.one (Src.row 0 rfl) (fun hV15 => ?_)
      refine O.l0 (Lo.store 2 (vs := [V14]) [.int .i64 x0, .int .i64 x1, .int .i64 x2, .int .i64 x3, .int .i64 x4, .int .i64 x5, .int .i64 x6, .int .i64 ph, V14] rfl rfl rfl (by exact Try.sizeOf24) (one_cells hV15) rfl (one_all hV15) rfl rfl) ?_
      rintro _ _ rfl
      refine O.nil ?_
      refine J.seq ?_
      refine J.region ?_
      refine O.q (Qt.ld rfl (Cel.var 2 rfl) (o := 0) (off := 0) rfl (Cut.agg [.int .i64 x0, .int .i64 x1, .int .i64 x2, .int .i64 x3, .int .i64 x4, .int .i64 x5, .int .i64 x6, .int .i64 ph, V14] Try.isAgg28 Try.sizeOf28 rfl rfl)) rfl ?_
      refine O.l0 (Lo.store 1 (vs := [.int .i64 x0, .int .i64 x1, .int .i64 x2, .int .i64 x3, .int .i64 x4, .int .i64 x5, .int .i64 x6, .int .i64 ph, V14]) [.int .i64 x0, .int .i64 x1, .int .i64 x2, .int .i64 x3, .int .i64 x4, .int .i64 x5, .int .i64 x6, .int .i64 ph, V14] rfl rfl rfl (by exact Try.sizeOf28) rfl rfl (by simp only [List.all_cons, List.all_nil, Bool.and_true, hV15] <;> rfl) rfl rfl) ?_
      rintro _ _ rfl
      refine O.p (Pu.assign rfl) rfl ?_
      refine O.nil ?_
      exact J.ret (Fin.ret (rs := [.cell 6 28, .tmp 7]) rfl [_, _] ⟨⟨_, _, 0, 0, _, rfl, (Cel.var 1 rfl), rfl, (Cut.agg [.int .i64 x0, .int .i64 x1, .int .i64 x2, .int .i64 x3, .int .i64 x4, .int .i64 x5, .int .i64 x6, .int .i64 ph, V14] Try.isAgg28 Try.sizeOf28 rfl rfl)⟩, rfl, trivial⟩ [0] (by decide) [row V14 3 1 ((([] : List Int) ++ l).map encZ)] rfl ⟨V14, rfl, rfl⟩)
    ·
      have p16 := of_decide_eq_false h12
      exact absurd ((Jb.idx_mem (by assumption : Jb.IdxP l c _)).1 (by omega)) (hm.resolve_left (by omega))

set_option maxRecDepth 100000 in
theorem jb_HeardBad (x0 x1 x2 x3 x4 x5 x6 : Int) (jv : Value) (l : List Int) (c code : Int) (hl : l.length ≤ 1000) (hm : c ∈ l) (hc : code ≠ 1) : Tri Try.prog 14 #[.agg #[.int .i64 x0, .int .i64 x1, .int .i64 x2, .int .i64 x3, .int .i64 x4, .int .i64 x5, .int .i64 x6, .int .i64 2, jv], .int .i64 c, .int .i64 code] [rd jv 1 (l.map encZ)] [] (fun v L' => v = .tuple #[.agg #[.int .i64 0, .int .i64 0, .int .i64 0, .int .i64 0, .int .i64 0, .int .i64 0, .int .i64 0, .int .i64 0, Value.slice none 0 0], .int .i64 7] ∧ L' = []) := by
  refine Tri.enter (args := [.agg #[.int .i64 x0, .int .i64 x1, .int .i64 x2, .int .i64 x3, .int .i64 x4, .int .i64 x5, .int .i64 x6, .int .i64 2, jv], .int .i64 c, .int .i64 code]) (body := _) 49 Try.func14 rfl Try.ntmps14 rfl ?_
  intro w0
  refine J.seq ?_
  refine J.region ?_
  refine O.one (Src.ro 0 rfl) (fun hV2 => ?_)
  refine O.l (Lo.box [.int .i64 x0, .int .i64 x1, .int .i64 x2, .int .i64 x3, .int .i64 x4, .int .i64 x5, .int .i64 x6, .int .i64 2, jv] rfl rfl) rfl ?_
  rintro _ _ ⟨g1, rfl, rfl⟩
  refine O.l (Lo.alloc [.int .i64 0, .int .i64 0, .int .i64 0, .int .i64 0, .int .i64 0, .int .i64 0, .int .i64 0, .int .i64 0, Value.slice none 0 0] (by exact Try.zeroValue28) rfl) rfl ?_
  rintro _ _ ⟨g3, rfl, rfl⟩
  refine O.p (Pu.assign rfl) rfl ?_
  refine O.nil ?_
  refine J.seq ?_
  refine J.region ?_
  refine O.p (Pu.fieldAddr (off' := 8) Try.runUnderlying28 rfl Try.sizeOf24 rfl rfl rfl) rfl ?_
  refine O.q (Qt.ld rfl (Cel.var 1 rfl) (o := 0) (off := 8) rfl (Cut.one Try.isAgg24 rfl)) rfl ?_
  refine O.p (Pu.move rfl) rfl ?_
  refine O.l (Lo.call [jv, .int .i64 c] (by exact Try.call56) rfl (s_Index jv l c (by omega)) [] [0, 1] (by decide) rfl [var g3 [.int .i64 0, .int .i64 0, .int .i64 0, .int .i64 0, .int .i64 0, .int .i64 0, .int .i64 0, .int .i64 0, Value.slice none 0 0] 28, var g1 [.int .i64 x0, .int .i64 x1, .int .i64 x2, .int .i64 x3, .int .i64 x4, .int .i64 x5, .int .i64 x6, .int .i64 2, jv] 28] rfl (RoOk.ro 0 rfl [] rfl RoOk.nil)) rfl ?_
  rintro _ _ ⟨_, ⟨k4, rfl, hx5, rfl⟩, rfl⟩
  refine O.p (Pu.assign rfl) rfl ?_
  refine O.nil ?_
  refine J.seq ?_
  refine J.seq ?_
  refine J.region ?_
  refine O.p (Pu.fieldAddr (off' := 7) Try.runUnderlying28 rfl Try.sizeOf3 rfl rfl rfl) rfl ?_
  refine O.q (Qt.ld rfl (Cel.var 1 rfl) (o := 0) (off := 7) rfl (Cut.one Try.isAgg3 rfl)) rfl ?_
  refine O.p (Pu.neq rfl rfl) rfl ?_
  refine O.p (Pu.move rfl) rfl ?_
  refine O.gq (t := 17) rfl rfl rfl rfl (Pu.qt (Pu.move rfl)) rfl ?_
  refine O.gq (t := 17) rfl rfl rfl rfl (Pu.qt (Pu.lss rfl rfl)) rfl ?_
  refine O.p (Pu.pickF rfl rfl rfl) rfl ?_
  refine O.nil ?_
  refine J.condF rfl (decide_eq_false (by have h_ := (Jb.idx_mem hx5).2 hm; omega)) ?_
  refine J.skip ?_
  refine J.seq ?_
  refine J.seq ?_
  refine J.region ?_
  refine O.p (Pu.move rfl) rfl ?_
  refine O.p (Pu.neq rfl rfl) rfl ?_
  refine O.nil ?_
  refine J.condT rfl (decide_eq_true hc) ?_
  refine J.seq ?_
  refine J.region ?_
  refine O.l (Lo.call [.int .i64 7] (by exact Try.call57) rfl (jb_over 7) [] [0, 1] (by decide) rfl [var g3 [.int .i64 0, .int .i64 0, .int .i64 0, .int .i64 0, .int .i64 0, .int .i64 0, .int .i64 0, .int .i64 0, Value.slice none 0 0] 28, var g1 [.int .i64 x0, .int .i64 x1, .int .i64 x2, .int .i64 x3, .int .i64 x4, .int .i64 x5, .int .i64 x6, .int .i64 2, jv] 28] rfl RoOk.nil) rfl ?_
  rintro _ _ ⟨_, ⟨rfl, rfl⟩, rfl⟩
  refine O.p (Pu.extract rfl rfl) rfl ?_
  refine O.p (Pu.extract rfl rfl) rfl ?_
  refine O.l0 (Lo.store 0 (vs := [.int .i64 0, .int .i64 0, .int .i64 0, .int .i64 0, .int .i64 0, .int .i64 0, .int .i64 0, .int .i64 0, Value.slice none 0 0]) [.int .i64 0, .int .i64 0, .int .i64 0, .int .i64 0, .int .i64 0, .int .i64 0, .int .i64 0, .int .i64 0, Value.slice none 0 0] rfl rfl rfl (by exact Try.sizeOf28) rfl rfl rfl rfl rfl) ?_
  rintro _ _ rfl
  refine O.p (Pu.assign rfl) rfl ?_
  refine O.nil ?_
  exact J.ret (Fin.ret (rs := [.cell 6 28, .tmp 7]) rfl [_, _] ⟨⟨_, _, 0, 0, _, rfl, (Cel.var 0 rfl), rfl, (Cut.agg [.int .i64 0, .int .i64 0, .int .i64 0, .int .i64 0, .int .i64 0, .int .i64 0, .int .i64 0, .int .i64 0, Value.slice none 0 0] Try.isAgg28 Try.sizeOf28 rfl rfl)⟩, rfl, trivial⟩ [] (by decide) [] rfl ⟨rfl, rfl⟩)

set_option maxRecDepth 100000 in
theorem jb_Heard (x0 x1 x2 x3 x4 x5 x6 : Int) (jv : Value) (l : List Int) (c : Int) (hl : l.length ≤ 1000) (hm : c ∈ l) (hu : Jb.Up l) (hne : Jb.without l c ≠ []) : Tri Try.prog 14 #[.agg #[.int .i64 x0, .int .i64 x1, .int .i64 x2, .int .i64 x3, .int .i64 x4, .int .i64 x5, .int .i64 x6, .int .i64 2, jv], .int .i64 c, .int .i64 1] [rd jv 1 (l.map encZ)] [] (fun v L' => ∃ V', v = .tuple #[.agg #[.int .i64 x0, .int .i64 x1, .int .i64 x2, .int .i64 x3, .int .i64 x4, .int .i64 x5, .int .i64 x6, .int .i64 2, V'], .int .i64 0] ∧ L' = [row V' 3 1 ((Jb.without l c).map encZ)]) := by
  refine Tri.enter (args := [.agg #[.int .i64 x0, .int .i64 x1, .int .i64 x2, .int .i64 x3, .int .i64 x4, .int .i64 x5, .int .i64 x6, .int .i64 2, jv], .int .i64 c, .int .i64 1]) (body := _) 49 Try.func14 rfl Try.ntmps14 rfl ?_
  intro w0
  refine J.seq ?_
  refine J.region ?_
  refine O.one (Src.ro 0 rfl) (fun hV2 => ?_)
  refine O.l (Lo.box [.int .i64 x0, .int .i64 x1, .int .i64 x2, .int .i64 x3, .int .i64 x4, .int .i64 x5, .int .i64 x6, .int .i64 2, jv] rfl rfl) rfl ?_
  rintro _ _ ⟨g1, rfl, rfl⟩
  refine O.l (Lo.alloc [.int .i64 0, .int .i64 0, .int .i64 0, .int .i64 0, .int .i64 0, .int .i64 0, .int .i64 0, .int .i64 0, Value.slice none 0 0] (by exact Try.zeroValue28) rfl) rfl ?_
  rintro _ _ ⟨g3, rfl, rfl⟩
  refine O.p (Pu.assign rfl) rfl ?_
  refine O.nil ?_
  refine J.seq ?_
  refine J.region ?_
  refine O.p (Pu.fieldAddr (off' := 8) Try.runUnderlying28 rfl Try.sizeOf24 rfl rfl rfl) rfl ?_
  refine O.q (Qt.ld rfl (Cel.var 1 rfl) (o := 0) (off := 8) rfl (Cut.one Try.isAgg24 rfl)) rfl ?_
  refine O.p (Pu.move rfl) rfl ?_
  refine O.l (Lo.call [jv, .int .i64 c] (by exact Try.call56) rfl (s_Index jv l c (by omega)) [] [0, 1] (by decide) rfl [var g3 [.int .i64 0, .int .i64 0, .int .i64 0, .int .i64 0, .int .i64 0, .int .i64 0, .int .i64 0, .int .i64 0, Value.slice none 0 0] 28, var g1 [.int .i64 x0, .int .i64 x1, .int .i64 x2, .int .i64 x3, .int .i64 x4, .int .i64 x5, .int .i64 x6, .int .i64 2, jv] 28] rfl (RoOk.ro 0 rfl [] rfl RoOk.nil)) rfl ?_
  rintro _ _ ⟨_, ⟨k4, rfl, hx5, rfl⟩, rfl⟩
  refine O.p (Pu.assign rfl) rfl ?_
  refine O.nil ?_
  refine J.seq ?_
  refine J.seq ?_
  refine J.region ?_
  refine O.p (Pu.fieldAddr (off' := 7) Try.runUnderlying28 rfl Try.sizeOf3 rfl rfl rfl) rfl ?_
  refine O.q (Qt.ld rfl (Cel.var 1 rfl) (o := 0) (off := 7) rfl (Cut.one Try.isAgg3 rfl)) rfl ?_
  refine O.p (Pu.neq rfl rfl) rfl ?_
  refine O.p (Pu.move rfl) rfl ?_
  refine O.gq (t := 17) rfl rfl rfl rfl (Pu.qt (Pu.move rfl)) rfl ?_
  refine O.gq (t := 17) rfl rfl rfl rfl (Pu.qt (Pu.lss rfl rfl)) rfl ?_
  refine O.p (Pu.pickF rfl rfl rfl) rfl ?_
  refine O.nil ?_
  refine J.condF rfl (decide_eq_false (by have h_ := (Jb.idx_mem hx5).2 hm; omega)) ?_
  refine J.skip ?_
  refine J.seq ?_
  refine J.seq ?_
  refine J.region ?_
  refine O.p (Pu.move rfl) rfl ?_
  refine O.p (Pu.neq rfl rfl) rfl ?_
  refine O.nil ?_
  refine J.condF rfl rfl ?_
  refine J.skip ?_
  refine J.seq ?_
  refine J.region ?_
  refine O.l (Lo.buildE encZ (by exact Try.runUnderlying24) (by exact Try.sizeOf3)) rfl ?_
  rintro V7 _ rfl
  refine O.p (Pu.fieldAddr (off' := 8) Try.runUnderlying28 rfl Try.sizeOf24 rfl rfl rfl) rfl ?_
  refine O.q (Qt.ld rfl (Cel.var 2 rfl) (o := 0) (off := 8) rfl (Cut.one Try.isAgg24 rfl)) rfl ?_
  refine O.p (Pu.move rfl) rfl ?_
  refine O.q (Qt.cutHead Try.runUnderlying24 Try.sizeOf3 rfl (Src.ro 0 rfl) rfl (by first | omega | (have h0_ := ((Jb.idx_mem (by assumption : Jb.IdxP l c _)).2 hm); have h_ := Jb.idx_at (by assumption : Jb.IdxP l c _) h0_; first | omega | (simp only [List.length_append, List.length_cons, List.length_nil, List.length_take, List.length_drop]; omega))) (by first | omega | (have h0_ := ((Jb.idx_mem (by assumption : Jb.IdxP l c _)).2 hm); have h_ := Jb.idx_at (by assumption : Jb.IdxP l c _) h0_; first | omega | (simp only [List.length_append, List.length_cons, List.length_nil, List.length_take, List.length_drop]; omega)))) rfl ?_
  refine O.l (Lo.appendM (s := 1) 0 (by exact Try.underlying24) (by exact (info3).1) (by exact (info3).2.1) (by exact (info3).2.2.1) (by exact (info3).2.2.2) rfl rfl rfl rfl rfl (Src.head (l := l) (Src.ro 0 rfl) (by first | omega | (have h0_ := ((Jb.idx_mem (by assumption : Jb.IdxP l c _)).2 hm); have h_ := Jb.idx_at (by assumption : Jb.IdxP l c _) h0_; first | omega | (simp only [List.length_append, List.length_cons, List.length_nil, List.length_take, List.length_drop]; omega)))) encZ.one (by first | omega | (have h0_ := ((Jb.idx_mem (by assumption : Jb.IdxP l c _)).2 hm); have h_ := Jb.idx_at (by assumption : Jb.IdxP l c _) h0_; first | omega | (simp only [List.length_append, List.length_cons, List.length_nil, List.length_take, List.length_drop]; omega))) (by first | omega | (have h0_ := ((Jb.idx_mem (by assumption : Jb.IdxP l c _)).2 hm); have h_ := Jb.idx_at (by assumption : Jb.IdxP l c _) h0_; first | omega | (simp only [List.length_append, List.length_cons, List.length_nil, List.length_take, List.length_drop]; omega)))) rfl ?_
  rintro V8 _ rfl
  refine O.p (Pu.assign rfl) rfl ?_
  refine O.nil ?_
  refine J.seq ?_
  refine J.drawMix [(0, false), (1, false), (2, false), (3, false), (4, false), (5, false), (6, false), (7, false), (8, true), (9, true), (10, false), (11, false), (12, true), (13, false)] [2] [var g1 [.int .i64 x0, .int .i64 x1, .int .i64 x2, .int .i64 x3, .int .i64 x4, .int .i64 x5, .int .i64 x6, .int .i64 2, jv] 28] Try.mixed (by kernel_rfl) (by decide) rfl ?_
  refine Mx.q rfl (Qt.ld rfl (Cel.var 0 rfl) (o := 0) (off := 0) rfl (Cut.agg [.int .i64 x0, .int .i64 x1, .int .i64 x2, .int .i64 x3, .int .i64 x4, .int .i64 x5, .int .i64 x6, .int .i64 2, jv] Try.isAgg28 Try.sizeOf28 rfl rfl)) rfl ?_
  refine Mx.p rfl (Pu.build [(0, .agg #[.int .i64 x0, .int .i64 x1, .int .i64 x2, .int .i64 x3, .int .i64 x4, .int .i64 x5, .int .i64 x6, .int .i64 2, jv])] [.int .i64 x0, .int .i64 x1, .int .i64 x2, .int .i64 x3, .int .i64 x4, .int .i64 x5, .int .i64 x6, .int .i64 2, jv] #[(0, 9)] Try.runUnderlying88 Try.zeroValue88 (places88 Try.underlying88) rfl (by cases jv <;> first | (simp [Value.oneCell'] at hV2; done) | (kernel_rfl; done))) rfl ?_
  refine Mx.p rfl (Pu.move rfl) rfl ?_
  refine Mx.p rfl (Pu.fieldAddr (off' := 8) Try.runUnderlying28 rfl Try.sizeOf24 rfl rfl rfl) rfl ?_
  refine Mx.q rfl (Qt.ld rfl (Cel.var 0 rfl) (o := 0) (off := 8) rfl (Cut.one Try.isAgg24 rfl)) rfl ?_
  refine Mx.p rfl (Pu.move rfl) rfl ?_
  refine Mx.p rfl (Pu.add' rfl rfl (by first | omega | (have h0_ := ((Jb.idx_mem (by assumption : Jb.IdxP l c _)).2 hm); have h_ := Jb.idx_at (by assumption : Jb.IdxP l c _) h0_; first | omega | (simp only [List.length_append, List.length_cons, List.length_nil, List.length_take, List.length_drop]; omega)))) rfl ?_
  refine Mx.q rfl (Qt.cutTail Try.runUnderlying24 Try.sizeOf3 rfl (Src.ro 0 rfl) rfl (by first | omega | (have h0_ := ((Jb.idx_mem (by assumption : Jb.IdxP l c _)).2 hm); have h_ := Jb.idx_at (by assumption : Jb.IdxP l c _) h0_; first | omega | (simp only [List.length_append, List.length_cons, List.length_nil, List.length_take, List.length_drop]; omega))) (by first | omega | (have h0_ := ((Jb.idx_mem (by assumption : Jb.IdxP l c _)).2 hm); have h_ := Jb.idx_at (by assumption : Jb.IdxP l c _) h0_; first | omega | (simp only [List.length_append, List.length_cons, List.length_nil, List.length_take, List.length_drop]; omega)))) rfl ?_
  refine Mx.l rfl (Lo.appendM (s := 1) 0 (by exact Try.underlying24) (by exact (info3).1) (by exact (info3).2.1) (by exact (info3).2.2.1) (by exact (info3).2.2.2) rfl rfl rfl rfl rfl (Src.tail (l := l) (Src.ro 0 rfl) (by first | omega | (have h0_ := ((Jb.idx_mem (by assumption : Jb.IdxP l c _)).2 hm); have h_ := Jb.idx_at (by assumption : Jb.IdxP l c _) h0_; first | omega | (simp only [List.length_append, List.length_cons, List.length_nil, List.length_take, List.length_drop]; omega))) rfl) encZ.one (by first | omega | (have h0_ := ((Jb.idx_mem (by assumption : Jb.IdxP l c _)).2 hm); have h_ := Jb.idx_at (by assumption : Jb.IdxP l c _) h0_; first | omega | (simp only [List.length_append, List.length_cons, List.length_nil, List.length_take, List.length_drop]; omega))) (by first | omega | (have h0_ := ((Jb.idx_mem (by assumption : Jb.IdxP l c _)).2 hm); have h_ := Jb.idx_at (by assumption : Jb.IdxP l c _) h0_; first | omega | (simp only [List.length_append, List.length_cons, List.length_nil, List.length_take, List.length_drop]; omega)))) rfl ?_
  rintro V9 _ rfl
  refine MxK.go [2] [0] [var g1 [.int .i64 x0, .int .i64 x1, .int .i64 x2, .int .i64 x3, .int .i64 x4, .int .i64 x5, .int .i64 x6, .int .i64 2, jv] 28] (by decide) rfl (by decide) rfl ?_
  refine Mx.l rfl (Lo.call [.agg #[.int .i64 x0, .int .i64 x1, .int .i64 x2, .int .i64 x3, .int .i64 x4, .int .i64 x5, .int .i64 x6, .int .i64 2, jv], V9] (by exact Try.call54) rfl (jb_wait x0 x1 x2 x3 x4 x5 x6 2 jv V9 ((([] : List Int) ++ (l.take (k4).toNat)) ++ (l.drop (k4 + 1).toNat)) hV2 (by rw [List.nil_append, Jb.del_at hu (by assumption : Jb.IdxP l c _) ((Jb.idx_mem (by assumption : Jb.IdxP l c _)).2 hm)]; exact hne)) [0] [1, 2] (by decide) rfl [var g3 [.int .i64 0, .int .i64 0, .int .i64 0, .int .i64 0, .int .i64 0, .int .i64 0, .int .i64 0, .int .i64 0, Value.slice none 0 0] 28, var g1 [.int .i64 x0, .int .i64 x1, .int .i64 x2, .int .i64 x3, .int .i64 x4, .int .i64 x5, .int .i64 x6, .int .i64 2, jv] 28] rfl RoOk.nil) rfl ?_
  rintro _ _ ⟨_, ⟨rfl, rfl⟩, rfl⟩
  refine MxK.go [2] [0] [var g1 [.int .i64 x0, .int .i64 x1, .int .i64 x2, .int .i64 x3, .int .i64 x4, .int .i64 x5, .int .i64 x6, .int .i64 2, jv] 28] (by decide) rfl (by decide) rfl ?_
  refine Mx.p rfl (Pu.extract rfl rfl) rfl ?_
  refine Mx.p rfl (Pu.extract rfl rfl) rfl ?_
  refine Mx.one rfl (fun _ h => by cases h <;> rfl) (Src.row 0 rfl) (fun hV11 => ?_)
  refine Mx.l0 rfl (Lo.store 1 (vs := [.int .i64 x0, .int .i64 x1, .int .i64 x2, .int .i64 x3, .int .i64 x4, .int .i64 x5, .int .i64 x6, .int .i64 2, V9]) [.int .i64 x0, .int .i64 x1, .int .i64 x2, .int .i64 x3, .int .i64 x4, .int .i64 x5, .int .i64 x6, .int .i64 2, V9] rfl rfl rfl (by exact Try.sizeOf28) rfl rfl (by simp only [List.all_cons, List.all_nil, Bool.and_true, hV11] <;> rfl) rfl rfl) ?_
  rintro _ _ rfl
  refine MxK.all [2] [var g1 [.int .i64 x0, .int .i64 x1, .int .i64 x2, .int .i64 x3, .int .i64 x4, .int .i64 x5, .int .i64 x6, .int .i64 2, jv] 28] (by decide) rfl (by kernel_rfl) ?_
  refine Mx.p rfl (Pu.assign rfl) rfl ?_
  refine Mx.nil ?_
  exact J.ret (Fin.ret (rs := [.cell 6 28, .tmp 7]) rfl [_, _] ⟨⟨_, _, 0, 0, _, rfl, (Cel.var 1 rfl), rfl, (Cut.agg [.int .i64 x0, .int .i64 x1, .int .i64 x2, .int .i64 x3, .int .i64 x4, .int .i64 x5, .int .i64 x6, .int .i64 2, V9] Try.isAgg28 Try.sizeOf28 rfl rfl)⟩, rfl, trivial⟩ [0] (by decide) [row V9 3 1 (((([] : List Int) ++ (l.take (k4).toNat)) ++ (l.drop (k4 + 1).toNat)).map encZ)] rfl ⟨V9, rfl, (by rw [List.nil_append, Jb.del_at hu (by assumption : Jb.IdxP l c _) ((Jb.idx_mem (by assumption : Jb.IdxP l c _)).2 hm)])⟩)

set_option maxRecDepth 100000 in
theorem jb_HeardE (x0 x1 x2 x3 x4 x5 x6 : Int) (jv : Value) (l : List Int) (c : Int) (hl : l.length ≤ 1000) (hm : c ∈ l) (hu : Jb.Up l) (he : Jb.without l c = []) : Tri Try.prog 14 #[.agg #[.int .i64 x0, .int .i64 x1, .int .i64 x2, .int .i64 x3, .int .i64 x4, .int .i64 x5, .int .i64 x6, .int .i64 2, jv], .int .i64 c, .int .i64 1] [rd jv 1 (l.map encZ)] [] (fun v L' => v = .tuple #[.agg #[.int .i64 0, .int .i64 0, .int .i64 0, .int .i64 0, .int .i64 0, .int .i64 0, .int .i64 0, .int .i64 0, Value.slice none 0 0], .int .i64 1] ∧ L' = []) := by
  refine Tri.enter (args := [.agg #[.int .i64 x0, .int .i64 x1, .int .i64 x2, .int .i64 x3, .int .i64 x4, .int .i64 x5, .int .i64 x6, .int .i64 2, jv], .int .i64 c, .int .i64 1]) (body := _) 49 Try.func14 rfl Try.ntmps14 rfl ?_
  intro w0
  refine J.seq ?_
  refine J.region ?_
  refine O.one (Src.ro 0 rfl) (fun hV2 => ?_)
  refine O.l (Lo.box [.int .i64 x0, .int .i64 x1, .int .i64 x2, .int .i64 x3, .int .i64 x4, .int .i64 x5, .int .i64 x6, .int .i64 2, jv] rfl rfl) rfl ?_
  rintro _ _ ⟨g1, rfl, rfl⟩
  refine O.l (Lo.alloc [.int .i64 0, .int .i64 0, .int .i64 0, .int .i64 0, .int .i64 0, .int .i64 0, .int .i64 0, .int .i64 0, Value.slice none 0 0] (by exact Try.zeroValue28) rfl) rfl ?_
  rintro _ _ ⟨g3, rfl, rfl⟩
  refine O.p (Pu.assign rfl) rfl ?_
  refine O.nil ?_
  refine J.seq ?_
  refine J.region ?_
  refine O.p (Pu.fieldAddr (off' := 8) Try.runUnderlying28 rfl Try.sizeOf24 rfl rfl rfl) rfl ?_
  refine O.q (Qt.ld rfl (Cel.var 1 rfl) (o := 0) (off := 8) rfl (Cut.one Try.isAgg24 rfl)) rfl ?_
  refine O.p (Pu.move rfl) rfl ?_
  refine O.l (Lo.call [jv, .int .i64 c] (by exact Try.call56) rfl (s_Index jv l c (by omega)) [] [0, 1] (by decide) rfl [var g3 [.int .i64 0, .int .i64 0, .int .i64 0, .int .i64 0, .int .i64 0, .int .i64 0, .int .i64 0, .int .i64 0, Value.slice none 0 0] 28, var g1 [.int .i64 x0, .int .i64 x1, .int .i64 x2, .int .i64 x3, .int .i64 x4, .int .i64 x5, .int .i64 x6, .int .i64 2, jv] 28] rfl (RoOk.ro 0 rfl [] rfl RoOk.nil)) rfl ?_
  rintro _ _ ⟨_, ⟨k4, rfl, hx5, rfl⟩, rfl⟩
  refine O.p (Pu.assign rfl) rfl ?_
  refine O.nil ?_
  refine J.seq ?_
  refine J.seq ?_
  refine J.region ?_
  refine O.p (Pu.fieldAddr (off' := 7) Try.runUnderlying28 rfl Try.sizeOf3 rfl rfl rfl) rfl ?_
  refine O.q (Qt.ld rfl (Cel.var 1 rfl) (o := 0) (off := 7) rfl (Cut.one Try.isAgg3 rfl)) rfl ?_
  refine O.p (Pu.neq rfl rfl) rfl ?_
  refine O.p (Pu.move rfl) rfl ?_
  refine O.gq (t := 17) rfl rfl rfl rfl (Pu.qt (Pu.move rfl)) rfl ?_
  refine O.gq (t := 17) rfl rfl rfl rfl (Pu.qt (Pu.lss rfl rfl)) rfl ?_
  refine O.p (Pu.pickF rfl rfl rfl) rfl ?_
  refine O.nil ?_
  refine J.condF rfl (decide_eq_false (by have h_ := (Jb.idx_mem hx5).2 hm; omega)) ?_
  refine J.skip ?_
  refine J.seq ?_
  refine J.seq ?_
  refine J.region ?_
  refine O.p (Pu.move rfl) rfl ?_
  refine O.p (Pu.neq rfl rfl) rfl ?_
  refine O.nil ?_
  refine J.condF rfl rfl ?_
  refine J.skip ?_
  refine J.seq ?_
  refine J.region ?_
  refine O.l (Lo.buildE encZ (by exact Try.runUnderlying24) (by exact Try.sizeOf3)) rfl ?_
  rintro V7 _ rfl
  refine O.p (Pu.fieldAddr (off' := 8) Try.runUnderlying28 rfl Try.sizeOf24 rfl rfl rfl) rfl ?_
  refine O.q (Qt.ld rfl (Cel.var 2 rfl) (o := 0) (off := 8) rfl (Cut.one Try.isAgg24 rfl)) rfl ?_
  refine O.p (Pu.move rfl) rfl ?_
  refine O.q (Qt.cutHead Try.runUnderlying24 Try.sizeOf3 rfl (Src.ro 0 rfl) rfl (by first | omega | (have h0_ := ((Jb.idx_mem (by assumption : Jb.IdxP l c _)).2 hm); have h_ := Jb.idx_at (by assumption : Jb.IdxP l c _) h0_; first | omega | (simp only [List.length_append, List.length_cons, List.length_nil, List.length_take, List.length_drop]; omega))) (by first | omega | (have h0_ := ((Jb.idx_mem (by assumption : Jb.IdxP l c _)).2 hm); have h_ := Jb.idx_at (by assumption : Jb.IdxP l c _) h0_; first | omega | (simp only [List.length_append, List.length_cons, List.length_nil, List.length_take, List.length_drop]; omega)))) rfl ?_
  refine O.l (Lo.appendM (s := 1) 0 (by exact Try.underlying24) (by exact (info3).1) (by exact (info3).2.1) (by exact (info3).2.2.1) (by exact (info3).2.2.2) rfl rfl rfl rfl rfl (Src.head (l := l) (Src.ro 0 rfl) (by first | omega | (have h0_ := ((Jb.idx_mem (by assumption : Jb.IdxP l c _)).2 hm); have h_ := Jb.idx_at (by assumption : Jb.IdxP l c _) h0_; first | omega | (simp only [List.length_append, List.length_cons, List.length_nil, List.length_take, List.length_drop]; omega)))) encZ.one (by first | omega | (have h0_ := ((Jb.idx_mem (by assumption : Jb.IdxP l c _)).2 hm); have h_ := Jb.idx_at (by assumption : Jb.IdxP l c _) h0_; first | omega | (simp only [List.length_append, List.length_cons, List.length_nil, List.length_take, List.length_drop]; omega))) (by first | omega | (have h0_ := ((Jb.idx_mem (by assumption : Jb.IdxP l c _)).2 hm); have h_ := Jb.idx_at (by assumption : Jb.IdxP l c _) h0_; first | omega | (simp only [List.length_append, List.length_cons, List.length_nil, List.length_take, List.length_drop]; omega)))) rfl ?_
  rintro V8 _ rfl
  refine O.p (Pu.assign rfl) rfl ?_
  refine O.nil ?_
  refine J.seq ?_
  refine J.drawMix [(0, false), (1, false), (2, false), (3, false), (4, false), (5, false), (6, false), (7, false), (8, true), (9, true), (10, false), (11, false), (12, true), (13, false)] [2] [var g1 [.int .i64 x0, .int .i64 x1, .int .i64 x2, .int .i64 x3, .int .i64 x4, .int .i64 x5, .int .i64 x6, .int .i64 2, jv] 28] Try.mixed (by kernel_rfl) (by decide) rfl ?_
  refine Mx.q rfl (Qt.ld rfl (Cel.var 0 rfl) (o := 0) (off := 0) rfl (Cut.agg [.int .i64 x0, .int .i64 x1, .int .i64 x2, .int .i64 x3, .int .i64 x4, .int .i64 x5, .int .i64 x6, .int .i64 2, jv] Try.isAgg28 Try.sizeOf28 rfl rfl)) rfl ?_
  refine Mx.p rfl (Pu.build [(0, .agg #[.int .i64 x0, .int .i64 x1, .int .i64 x2, .int .i64 x3, .int .i64 x4, .int .i64 x5, .int .i64 x6, .int .i64 2, jv])] [.int .i64 x0, .int .i64 x1, .int .i64 x2, .int .i64 x3, .int .i64 x4, .int .i64 x5, .int .i64 x6, .int .i64 2, jv] #[(0, 9)] Try.runUnderlying88 Try.zeroValue88 (places88 Try.underlying88) rfl (by cases jv <;> first | (simp [Value.oneCell'] at hV2; done) | (kernel_rfl; done))) rfl ?_
  refine Mx.p rfl (Pu.move rfl) rfl ?_
  refine Mx.p rfl (Pu.fieldAddr (off' := 8) Try.runUnderlying28 rfl Try.sizeOf24 rfl rfl rfl) rfl ?_
  refine Mx.q rfl (Qt.ld rfl (Cel.var 0 rfl) (o := 0) (off := 8) rfl (Cut.one Try.isAgg24 rfl)) rfl ?_
  refine Mx.p rfl (Pu.move rfl) rfl ?_
  refine Mx.p rfl (Pu.add' rfl rfl (by first | omega | (have h0_ := ((Jb.idx_mem (by assumption : Jb.IdxP l c _)).2 hm); have h_ := Jb.idx_at (by assumption : Jb.IdxP l c _) h0_; first | omega | (simp only [List.length_append, List.length_cons, List.length_nil, List.length_take, List.length_drop]; omega)))) rfl ?_
  refine Mx.q rfl (Qt.cutTail Try.runUnderlying24 Try.sizeOf3 rfl (Src.ro 0 rfl) rfl (by first | omega | (have h0_ := ((Jb.idx_mem (by assumption : Jb.IdxP l c _)).2 hm); have h_ := Jb.idx_at (by assumption : Jb.IdxP l c _) h0_; first | omega | (simp only [List.length_append, List.length_cons, List.length_nil, List.length_take, List.length_drop]; omega))) (by first | omega | (have h0_ := ((Jb.idx_mem (by assumption : Jb.IdxP l c _)).2 hm); have h_ := Jb.idx_at (by assumption : Jb.IdxP l c _) h0_; first | omega | (simp only [List.length_append, List.length_cons, List.length_nil, List.length_take, List.length_drop]; omega)))) rfl ?_
  refine Mx.l rfl (Lo.appendM (s := 1) 0 (by exact Try.underlying24) (by exact (info3).1) (by exact (info3).2.1) (by exact (info3).2.2.1) (by exact (info3).2.2.2) rfl rfl rfl rfl rfl (Src.tail (l := l) (Src.ro 0 rfl) (by first | omega | (have h0_ := ((Jb.idx_mem (by assumption : Jb.IdxP l c _)).2 hm); have h_ := Jb.idx_at (by assumption : Jb.IdxP l c _) h0_; first | omega | (simp only [List.length_append, List.length_cons, List.length_nil, List.length_take, List.length_drop]; omega))) rfl) encZ.one (by first | omega | (have h0_ := ((Jb.idx_mem (by assumption : Jb.IdxP l c _)).2 hm); have h_ := Jb.idx_at (by assumption : Jb.IdxP l c _) h0_; first | omega | (simp only [List.length_append, List.length_cons, List.length_nil, List.length_take, List.length_drop]; omega))) (by first | omega | (have h0_ := ((Jb.idx_mem (by assumption : Jb.IdxP l c _)).2 hm); have h_ := Jb.idx_at (by assumption : Jb.IdxP l c _) h0_; first | omega | (simp only [List.length_append, List.length_cons, List.length_nil, List.length_take, List.length_drop]; omega)))) rfl ?_
  rintro V9 _ rfl
  refine MxK.go [2] [0] [var g1 [.int .i64 x0, .int .i64 x1, .int .i64 x2, .int .i64 x3, .int .i64 x4, .int .i64 x5, .int .i64 x6, .int .i64 2, jv] 28] (by decide) rfl (by decide) rfl ?_
  refine Mx.l rfl (Lo.call [.agg #[.int .i64 x0, .int .i64 x1, .int .i64 x2, .int .i64 x3, .int .i64 x4, .int .i64 x5, .int .i64 x6, .int .i64 2, jv], V9] (by exact Try.call54) rfl (cast (congrArg (fun z => Tri Try.prog 54 #[.agg #[.int .i64 x0, .int .i64 x1, .int .i64 x2, .int .i64 x3, .int .i64 x4, .int .i64 x5, .int .i64 x6, .int .i64 2, jv], V9] [] [row V9 3 1 (z.map encZ)] _) ((by rw [List.nil_append, Jb.del_at hu (by assumption : Jb.IdxP l c _) ((Jb.idx_mem (by assumption : Jb.IdxP l c _)).2 hm)]; exact he.symm) : ([] : List Int) = (([] : List Int) ++ (l.take (k4).toNat)) ++ (l.drop (k4 + 1).toNat))) (jb_waitE x0 x1 x2 x3 x4 x5 x6 2 jv V9 hV2)) [0] [1, 2] (by decide) rfl [var g3 [.int .i64 0, .int .i64 0, .int .i64 0, .int .i64 0, .int .i64 0, .int .i64 0, .int .i64 0, .int .i64 0, Value.slice none 0 0] 28, var g1 [.int .i64 x0, .int .i64 x1, .int .i64 x2, .int .i64 x3, .int .i64 x4, .int .i64 x5, .int .i64 x6, .int .i64 2, jv] 28] rfl RoOk.nil) rfl ?_
  rintro _ _ ⟨_, ⟨rfl, rfl⟩, rfl⟩
  refine MxK.go [1] [0] [var g1 [.int .i64 x0, .int .i64 x1, .int .i64 x2, .int .i64 x3, .int .i64 x4, .int .i64 x5, .int .i64 x6, .int .i64 2, jv] 28] (by decide) rfl (by decide) rfl ?_
  refine Mx.p rfl (Pu.extract rfl rfl) rfl ?_
  refine Mx.p rfl (Pu.extract rfl rfl) rfl ?_
  refine Mx.l0 rfl (Lo.store 0 (vs := [.int .i64 0, .int .i64 0, .int .i64 0, .int .i64 0, .int .i64 0, .int .i64 0, .int .i64 0, .int .i64 0, Value.slice none 0 0]) [.int .i64 0, .int .i64 0, .int .i64 0, .int .i64 0, .int .i64 0, .int .i64 0, .int .i64 0, .int .i64 0, Value.slice none 0 0] rfl rfl rfl (by exact Try.sizeOf28) rfl rfl rfl rfl rfl) ?_
  rintro _ _ rfl
  refine MxK.all [1] [var g1 [.int .i64 x0, .int .i64 x1, .int .i64 x2, .int .i64 x3, .int .i64 x4, .int .i64 x5, .int .i64 x6, .int .i64 2, jv] 28] (by decide) rfl (by kernel_rfl) ?_
  refine Mx.p rfl (Pu.assign rfl) rfl ?_
  refine Mx.nil ?_
  exact J.ret (Fin.ret (rs := [.cell 6 28, .tmp 7]) rfl [_, _] ⟨⟨_, _, 0, 0, _, rfl, (Cel.var 0 rfl), rfl, (Cut.agg [.int .i64 0, .int .i64 0, .int .i64 0, .int .i64 0, .int .i64 0, .int .i64 0, .int .i64 0, .int .i64 0, Value.slice none 0 0] Try.isAgg28 Try.sizeOf28 rfl rfl)⟩, rfl, trivial⟩ [] (by decide) [] rfl ⟨rfl, rfl⟩)

set_option maxRecDepth 100000 in
theorem r32_HeardNo (x0 x1 x2 x3 x4 x5 x6 : Int) (ph : Int) (jv : Value) (l : List Int) (c code : Int) (hl : l.length ≤ 1000) (hm : ph ≠ 2 ∨ c ∉ l) : Tri Try.prog 33 #[.agg #[.int .i64 x0, .int .i64 x1, .int .i64 x2, .int .i64 x3, .int .i64 x4, .int .i64 x5, .int .i64 x6, .int .i64 ph, jv], .int .i64 c, .int .i64 code] [rd jv 1 (l.map encZ)] [] (fun v L' => v = .tuple #[.agg #[.int .i64 x0, .int .i64 x1, .int .i64 x2, .int .i64 x3, .int .i64 x4, .int .i64 x5, .int .i64 x6, .int .i64 ph, jv], .int .i64 0] ∧ L' = []) := by
  refine Tri.enter (args := [.agg #[.int .i64 x0, .int .i64 x1, .int .i64 x2, .int .i64 x3, .int .i64 x4, .int .i64 x5, .int .i64 x6, .int .i64 ph, jv], .int .i64 c, .int .i64 code]) (body := _) 54 Try.func33 rfl Try.ntmps33 rfl ?_
  intro w0
  refine J.seq ?_
  refine J.region ?_
  refine O.one (Src.ro 0 rfl) (fun hV2 => ?_)
  refine O.l (Lo.box [.int .i64 x0, .int .i64 x1, .int .i64 x2, .int .i64 x3, .int .i64 x4, .int .i64 x5, .int .i64 x6, .int .i64 ph, jv] rfl rfl) rfl ?_
  rintro _ _ ⟨g1, rfl, rfl⟩
  refine O.l (Lo.alloc [.int .i64 0, .int .i64 0, .int .i64 0, .int .i64 0, .int .i64 0, .int .i64 0, .int .i64 0, .int .i64 0, Value.slice none 0 0] (by exact Try.zeroValue28) rfl) rfl ?_
  rintro _ _ ⟨g3, rfl, rfl⟩
  refine O.p (Pu.assign rfl) rfl ?_
  refine O.nil ?_
  refine J.seq ?_
  refine J.seq ?_
  refine J.region ?_
  refine O.p (Pu.fieldAddr (off' := 7) Try.runUnderlying28 rfl Try.sizeOf3 rfl rfl rfl) rfl ?_
  refine O.q (Qt.ld rfl (Cel.var 1 rfl) (o := 0) (off := 7) rfl (Cut.one Try.isAgg3 rfl)) rfl ?_
  refine O.p (Pu.neq rfl rfl) rfl ?_
  refine O.p (Pu.move rfl) rfl ?_
  refine by_bool (decide (ph ≠ 2)) (fun h4 => ?_) (fun h4 => ?_)
  ·
    have p5 := of_decide_eq_true h4
    refine O.gskip (t := 13) rfl rfl (no_bool (by rw [h4]; decide)) rfl rfl ?_
    refine O.gskip (t := 13) rfl rfl (no_bool (by rw [h4]; decide)) rfl rfl ?_
    refine O.gskip (t := 13) rfl rfl (no_bool (by rw [h4]; decide)) rfl rfl ?_
    refine O.gskip (t := 13) rfl rfl (no_bool (by rw [h4]; decide)) rfl rfl ?_
    refine O.gskip (t := 13) rfl rfl (no_bool (by rw [h4]; decide)) rfl rfl ?_
    refine O.p (Pu.pickT rfl h4 rfl) rfl ?_
    refine O.nil ?_
    refine J.condT rfl rfl ?_
    refine J.seq ?_
    refine J.region ?_
    refine O.q (Qt.ld rfl (Cel.var 1 rfl) (o := 0) (off := 0) rfl (Cut.agg [.int .i64 x0, .int .i64 x1, .int .i64 x2, .int .i64 x3, .int .i64 x4, .int .i64 x5, .int .i64 x6, .int .i64 ph, jv] Try.isAgg28 Try.sizeOf28 rfl rfl)) rfl ?_
    refine O.l0 (Lo.store 0 (vs := [.int .i64 x0, .int .i64 x1, .int .i64 x2, .int .i64 x3, .int .i64 x4, .int .i64 x5, .int .i64 x6, .int .i64 ph, jv]) [.int .i64 x0, .int .i64 x1, .int .i64 x2, .int .i64 x3, .int .i64 x4, .int .i64 x5, .int .i64 x6, .int .i64 ph, jv] rfl rfl rfl (by exact Try.sizeOf28) rfl rfl (by simp only [List.all_cons, List.all_nil, Bool.and_true, hV2] <;> rfl) rfl rfl) ?_
    rintro _ _ rfl
    refine O.p (Pu.assign rfl) rfl ?_
    refine O.nil ?_
    exact J.ret (Fin.ret (rs := [.cell 6 28, .tmp 7]) rfl [_, _] ⟨⟨_, _, 0, 0, _, rfl, (Cel.var 0 rfl), rfl, (Cut.agg [.int .i64 x0, .int .i64 x1, .int .i64 x2, .int .i64 x3, .int .i64 x4, .int .i64 x5, .int .i64 x6, .int .i64 ph, jv] Try.isAgg28 Try.sizeOf28 rfl rfl)⟩, rfl, trivial⟩ [] (by decide) [] rfl ⟨rfl, rfl⟩)
  ·
    have p6 := of_decide_eq_false h4
    refine O.gq (t := 13) rfl rfl h4 rfl (Pu.qt (Pu.fieldAddr (off' := 8) Try.runUnderlying28 rfl Try.sizeOf24 rfl rfl rfl)) rfl ?_
    refine O.gq (t := 13) rfl rfl h4 rfl (Qt.ld rfl (Cel.var 1 rfl) (o := 0) (off := 8) rfl (Cut.one Try.isAgg24 rfl)) rfl ?_
    refine O.gq (t := 13) rfl rfl h4 rfl (Pu.qt (Pu.move rfl)) rfl ?_
    refine O.gl (t := 13) rfl rfl h4 rfl (Lo.call [jv, .int .i64 c] (by exact Try.call60) rfl (r32_has jv l c (by omega)) [] [0, 1] (by decide) rfl [var g3 [.int .i64 0, .int .i64 0, .int .i64 0, .int .i64 0, .int .i64 0, .int .i64 0, .int .i64 0, .int .i64 0, Value.slice none 0 0] 28, var g1 [.int .i64 x0, .int .i64 x1, .int .i64 x2, .int .i64 x3, .int .i64 x4, .int .i64 x5, .int .i64 x6, .int .i64 ph, jv] 28] rfl (RoOk.ro 0 rfl [] rfl RoOk.nil)) rfl ?_
    rintro _ _ ⟨_, ⟨rfl, rfl⟩, rfl⟩
    refine O.gq (t := 13) rfl rfl h4 rfl (Pu.qt (Pu.not rfl)) rfl ?_
    refine O.p (Pu.pickF rfl h4 rfl) rfl ?_
    refine O.nil ?_
    refine J.cond rfl (fun h8 => ?_) (fun h8 => ?_)
    ·
      have h9 : (decide (c ∈ l)) = false := not_flip h8
      have p10 := of_decide_eq_false h9
      refine J.seq ?_
      refine J.region ?_
      refine O.q (Qt.ld rfl (Cel.var 1 rfl) (o := 0) (off := 0) rfl (Cut.agg [.int .i64 x0, .int .i64 x1, .int .i64 x2, .int .i64 x3, .int .i64 x4, .int .i64 x5, .int .i64 x6, .int .i64 ph, jv] Try.isAgg28 Try.sizeOf28 rfl rfl)) rfl ?_
      refine O.l0 (Lo.store 0 (vs := [.int .i64 x0, .int .i64 x1, .int .i64 x2, .int .i64 x3, .int .i64 x4, .int .i64 x5, .int .i64 x6, .int .i64 ph, jv]) [.int .i64 x0, .int .i64 x1, .int .i64 x2, .int .i64 x3, .int .i64 x4, .int .i64 x5, .int .i64 x6, .int .i64 ph, jv] rfl rfl rfl (by exact Try.sizeOf28) rfl rfl (by simp only [List.all_cons, List.all_nil, Bool.and_true, hV2] <;> rfl) rfl rfl) ?_
      rintro _ _ rfl
      refine O.p (Pu.assign rfl) rfl ?_
      refine O.nil ?_
      exact J.ret (Fin.ret (rs := [.cell 6 28, .tmp 7]) rfl [_, _] ⟨⟨_, _, 0, 0, _, rfl, (Cel.var 0 rfl), rfl, (Cut.agg [.int .i64 x0, .int .i64 x1, .int .i64 x2, .int .i64 x3, .int .i64 x4, .int .i64 x5, .int .i64 x6, .int .i64 ph, jv] Try.isAgg28 Try.sizeOf28 rfl rfl)⟩, rfl, trivial⟩ [] (by decide) [] rfl ⟨rfl, rfl⟩)
    ·
      have h11 : (decide (c ∈ l)) = true := not_flip h8
      have p12 := of_decide_eq_true h11
      exact absurd (of_decide_eq_true (by assumption)) (hm.resolve_left (by omega))

set_option maxRecDepth 100000 in
theorem r32_HeardBad (x0 x1 x2 x3 x4 x5 x6 : Int) (jv : Value) (l : List Int) (c code : Int) (hl : l.length ≤ 1000) (hm : c ∈ l) (hc : code ≠ 1) : Tri Try.prog 33 #[.agg #[.int .i64 x0, .int .i64 x1, .int .i64 x2, .int .i64 x3, .int .i64 x4, .int .i64 x5, .int .i64 x6, .int .i64 2, jv], .int .i64 c, .int .i64 code] [rd jv 1 (l.map encZ)] [] (fun v L' => v = .tuple #[.agg #[.int .i64 0, .int .i64 0, .int .i64 0, .int .i64 0, .int .i64 0, .int .i64 0, .int .i64 0, .int .i64 0, Value.slice none 0 0], .int .i64 7] ∧ L' = []) := by
  refine Tri.enter (args := [.agg #[.int .i64 x0, .int .i64 x1, .int .i64 x2, .int .i64 x3, .int .i64 x4, .int .i64 x5, .int .i64 x6, .int .i64 2, jv], .int .i64 c, .int .i64 code]) (body := _) 54 Try.func33 rfl Try.ntmps33 rfl ?_
  intro w0
  refine J.seq ?_
  refine J.region ?_
  refine O.one (Src.ro 0 rfl) (fun hV2 => ?_)
  refine O.l (Lo.box [.int .i64 x0, .int .i64 x1, .int .i64 x2, .int .i64 x3, .int .i64 x4, .int .i64 x5, .int .i64 x6, .int .i64 2, jv] rfl rfl) rfl ?_
  rintro _ _ ⟨g1, rfl, rfl⟩
  refine O.l (Lo.alloc [.int .i64 0, .int .i64 0, .int .i64 0, .int .i64 0, .int .i64 0, .int .i64 0, .int .i64 0, .int .i64 0, Value.slice none 0 0] (by exact Try.zeroValue28) rfl) rfl ?_
  rintro _ _ ⟨g3, rfl, rfl⟩
  refine O.p (Pu.assign rfl) rfl ?_
  refine O.nil ?_
  refine J.seq ?_
  refine J.seq ?_
  refine J.region ?_
  refine O.p (Pu.fieldAddr (off' := 7) Try.runUnderlying28 rfl Try.sizeOf3 rfl rfl rfl) rfl ?_
  refine O.q (Qt.ld rfl (Cel.var 1 rfl) (o := 0) (off := 7) rfl (Cut.one Try.isAgg3 rfl)) rfl ?_
  refine O.p (Pu.neq rfl rfl) rfl ?_
  refine O.p (Pu.move rfl) rfl ?_
  refine O.gq (t := 13) rfl rfl rfl rfl (Pu.qt (Pu.fieldAddr (off' := 8) Try.runUnderlying28 rfl Try.sizeOf24 rfl rfl rfl)) rfl ?_
  refine O.gq (t := 13) rfl rfl rfl rfl (Qt.ld rfl (Cel.var 1 rfl) (o := 0) (off := 8) rfl (Cut.one Try.isAgg24 rfl)) rfl ?_
  refine O.gq (t := 13) rfl rfl rfl rfl (Pu.qt (Pu.move rfl)) rfl ?_
  refine O.gl (t := 13) rfl rfl rfl rfl (Lo.call [jv, .int .i64 c] (by exact Try.call60) rfl (r32_has jv l c (by omega)) [] [0, 1] (by decide) rfl [var g3 [.int .i64 0, .int .i64 0, .int .i64 0, .int .i64 0, .int .i64 0, .int .i64 0, .int .i64 0, .int .i64 0, Value.slice none 0 0] 28, var g1 [.int .i64 x0, .int .i64 x1, .int .i64 x2, .int .i64 x3, .int .i64 x4, .int .i64 x5, .int .i64 x6, .int .i64 2, jv] 28] rfl (RoOk.ro 0 rfl [] rfl RoOk.nil)) rfl ?_
  rintro _ _ ⟨_, ⟨rfl, rfl⟩, rfl⟩
  refine O.gq (t := 13) rfl rfl rfl rfl (Pu.qt (Pu.not rfl)) rfl ?_
  refine O.p (Pu.pickF rfl rfl rfl) rfl ?_
  refine O.nil ?_
  refine J.condF rfl (not_of_true (decide_eq_true hm)) ?_
  refine J.skip ?_
  refine J.seq ?_
  refine J.seq ?_
  refine J.region ?_
  refine O.p (Pu.move rfl) rfl ?_
  refine O.p (Pu.neq rfl rfl) rfl ?_
  refine O.nil ?_
  refine J.condT rfl (decide_eq_true hc) ?_
  refine J.seq ?_
  refine J.region ?_
  refine O.p (Pu.build [] [.int .i64 0, .int .i64 0, .int .i64 0, .int .i64 0, .int .i64 0, .int .i64 0, .int .i64 0, .int .i64 0, Value.slice none 0 0] #[(0, 7), (7, 1), (8, 1)] Try.runUnderlying28 Try.zeroValue28 (places28 Try.underlying28) rfl (by kernel_rfl)) rfl ?_
  refine O.l0 (Lo.store 0 (vs := [.int .i64 0, .int .i64 0, .int .i64 0, .int .i64 0, .int .i64 0, .int .i64 0, .int .i64 0, .int .i64 0, Value.slice none 0 0]) [.int .i64 0, .int .i64 0, .int .i64 0, .int .i64 0, .int .i64 0, .int .i64 0, .int .i64 0, .int .i64 0, Value.slice none 0 0] rfl rfl rfl (by exact Try.sizeOf28) rfl rfl rfl rfl rfl) ?_
  rintro _ _ rfl
  refine O.p (Pu.assign rfl) rfl ?_
  refine O.nil ?_
  exact J.ret (Fin.ret (rs := [.cell 6 28, .tmp 7]) rfl [_, _] ⟨⟨_, _, 0, 0, _, rfl, (Cel.var 0 rfl), rfl, (Cut.agg [.int .i64 0, .int .i64 0, .int .i64 0, .int .i64 0, .int .i64 0, .int .i64 0, .int .i64 0, .int .i64 0, Value.slice none 0 0] Try.isAgg28 Try.sizeOf28 rfl rfl)⟩, rfl, trivial⟩ [] (by decide) [] rfl ⟨rfl, rfl⟩)

set_option maxRecDepth 100000 in
theorem r32_Heard (x0 x1 x2 x3 x4 x5 x6 : Int) (jv : Value) (l : List Int) (c : Int) (hl : l.length ≤ 1000) (hm : c ∈ l) (hne : Jb.without l c ≠ []) : Tri Try.prog 33 #[.agg #[.int .i64 x0, .int .i64 x1, .int .i64 x2, .int .i64 x3, .int .i64 x4, .int .i64 x5, .int .i64 x6, .int .i64 2, jv], .int .i64 c, .int .i64 1] [rd jv 1 (l.map encZ)] [] (fun v L' => ∃ V', v = .tuple #[.agg #[.int .i64 x0, .int .i64 x1, .int .i64 x2, .int .i64 x3, .int .i64 x4, .int .i64 x5, .int .i64 x6, .int .i64 2, V'], .int .i64 0] ∧ L' = [row V' 3 1 ((Jb.without l c).map encZ)]) := by
  refine Tri.enter (args := [.agg #[.int .i64 x0, .int .i64 x1, .int .i64 x2, .int .i64 x3, .int .i64 x4, .int .i64 x5, .int .i64 x6, .int .i64 2, jv], .int .i64 c, .int .i64 1]) (body := _) 54 Try.func33 rfl Try.ntmps33 rfl ?_
  intro w0
  refine J.seq ?_
  refine J.region ?_
  refine O.one (Src.ro 0 rfl) (fun hV2 => ?_)
  refine O.l (Lo.box [.int .i64 x0, .int .i64 x1, .int .i64 x2, .int .i64 x3, .int .i64 x4, .int .i64 x5, .int .i64 x6, .int .i64 2, jv] rfl rfl) rfl ?_
  rintro _ _ ⟨g1, rfl, rfl⟩
  refine O.l (Lo.alloc [.int .i64 0, .int .i64 0, .int .i64 0, .int .i64 0, .int .i64 0, .int .i64 0, .int .i64 0, .int .i64 0, Value.slice none 0 0] (by exact Try.zeroValue28) rfl) rfl ?_
  rintro _ _ ⟨g3, rfl, rfl⟩
  refine O.p (Pu.assign rfl) rfl ?_
  refine O.nil ?_
  refine J.seq ?_
  refine J.seq ?_
  refine J.region ?_
  refine O.p (Pu.fieldAddr (off' := 7) Try.runUnderlying28 rfl Try.sizeOf3 rfl rfl rfl) rfl ?_
  refine O.q (Qt.ld rfl (Cel.var 1 rfl) (o := 0) (off := 7) rfl (Cut.one Try.isAgg3 rfl)) rfl ?_
  refine O.p (Pu.neq rfl rfl) rfl ?_
  refine O.p (Pu.move rfl) rfl ?_
  refine O.gq (t := 13) rfl rfl rfl rfl (Pu.qt (Pu.fieldAddr (off' := 8) Try.runUnderlying28 rfl Try.sizeOf24 rfl rfl rfl)) rfl ?_
  refine O.gq (t := 13) rfl rfl rfl rfl (Qt.ld rfl (Cel.var 1 rfl) (o := 0) (off := 8) rfl (Cut.one Try.isAgg24 rfl)) rfl ?_
  refine O.gq (t := 13) rfl rfl rfl rfl (Pu.qt (Pu.move rfl)) rfl ?_
  refine O.gl (t := 13) rfl rfl rfl rfl (Lo.call [jv, .int .i64 c] (by exact Try.call60) rfl (r32_has jv l c (by omega)) [] [0, 1] (by decide) rfl [var g3 [.int .i64 0, .int .i64 0, .int .i64 0, .int .i64 0, .int .i64 0, .int .i64 0, .int .i64 0, .int .i64 0, Value.slice none 0 0] 28, var g1 [.int .i64 x0, .int .i64 x1, .int .i64 x2, .int .i64 x3, .int .i64 x4, .int .i64 x5, .int .i64 x6, .int .i64 2, jv] 28] rfl (RoOk.ro 0 rfl [] rfl RoOk.nil)) rfl ?_
  rintro _ _ ⟨_, ⟨rfl, rfl⟩, rfl⟩
  refine O.gq (t := 13) rfl rfl rfl rfl (Pu.qt (Pu.not rfl)) rfl ?_
  refine O.p (Pu.pickF rfl rfl rfl) rfl ?_
  refine O.nil ?_
  refine J.condF rfl (not_of_true (decide_eq_true hm)) ?_
  refine J.skip ?_
  refine J.seq ?_
  refine J.seq ?_
  refine J.region ?_
  refine O.p (Pu.move rfl) rfl ?_
  refine O.p (Pu.neq rfl rfl) rfl ?_
  refine O.nil ?_
  refine J.condF rfl rfl ?_
  refine J.skip ?_
  refine J.seq ?_
  refine J.region ?_
  refine O.p (Pu.assign rfl) rfl ?_
  refine O.nil ?_
  refine J.seq ?_
  refine J.seq ?_
  refine J.region ?_
  refine O.p (Pu.assign rfl) rfl ?_
  refine O.nil ?_
  refine J.block ?_
  refine J.nilRow 3 1 ?_
  refine J.loop (X := Nat × Value × List Int) (fun ξ => ξ.1 ≤ l.length ∧ ξ.2.2 = Jb.without (l.take ξ.1) c ∧ ξ.2.2.length ≤ ξ.1) (fun ξ => [(1, .int .i64 c), (3, .pointer (some ⟨g1, 0, none⟩)), (6, .pointer (some ⟨g3, 0, none⟩)), (7, .int .i64 0), (8, ξ.2.1), (9, .int .i64 (ξ.1 : Int))]) (fun ξ => [var g1 [.int .i64 x0, .int .i64 x1, .int .i64 x2, .int .i64 x3, .int .i64 x4, .int .i64 x5, .int .i64 x6, .int .i64 2, jv] 28, row ξ.2.1 3 1 (ξ.2.2.map encZ), var g3 [.int .i64 0, .int .i64 0, .int .i64 0, .int .i64 0, .int .i64 0, .int .i64 0, .int .i64 0, .int .i64 0, Value.slice none 0 0] 28]) (fun ξ => l.length - ξ.1) ⟨0, Value.slice none 0 0, []⟩ (show 0 ≤ l.length ∧ ([]) = Jb.without (l.take 0) c ∧ ([]).length ≤ 0 from ⟨by omega, by simp [Jb.without], by simp⟩) ⟨rfl, rfl, rfl, rfl, rfl, (congrArg (fun z => some (Value.int .i64 z)) (by first | rfl | omega : (0 : Int) = (0 : Int))), trivial⟩ [2, 0, 1] (by decide) rfl ?_
  rintro ⟨k, V, o⟩ hq5
  obtain ⟨hk, hst, hlen⟩ : k ≤ l.length ∧ o = Jb.without (l.take k) c ∧ o.length ≤ k := hq5
  show J _ _ [(1, .int .i64 c), (3, .pointer (some ⟨g1, 0, none⟩)), (6, .pointer (some ⟨g3, 0, none⟩)), (7, .int .i64 0), (8, V), (9, .int .i64 (k : Int))] [var g1 [.int .i64 x0, .int .i64 x1, .int .i64 x2, .int .i64 x3, .int .i64 x4, .int .i64 x5, .int .i64 x6, .int .i64 2, jv] 28, row V 3 1 (o.map encZ), var g3 [.int .i64 0, .int .i64 0, .int .i64 0, .int .i64 0, .int .i64 0, .int .i64 0, .int .i64 0, .int .i64 0, Value.slice none 0 0] 28]
  refine J.seq ?_
  refine J.seq ?_
  refine J.region ?_
  refine O.p (Pu.move rfl) rfl ?_
  refine O.p (Pu.fieldAddr (off' := 8) Try.runUnderlying28 rfl Try.sizeOf24 rfl rfl rfl) rfl ?_
  refine O.q (Qt.ld rfl (Cel.var 0 rfl) (o := 0) (off := 8) rfl (Cut.one Try.isAgg24 rfl)) rfl ?_
  refine O.q (Qt.lenM Try.runUnderlying24 rfl (Src.ro 0 rfl)) rfl ?_
  refine O.p (Pu.lss rfl rfl) rfl ?_
  refine O.nil ?_
  refine J.cond rfl (fun h6 => ?_) (fun h6 => ?_)
  ·
    have p7 := of_decide_eq_true h6
    refine J.skip ?_
    refine J.seq ?_
    refine J.block ?_
    refine J.seq ?_
    refine J.region ?_
    refine O.p (Pu.fieldAddr (off' := 8) Try.runUnderlying28 rfl Try.sizeOf24 rfl rfl rfl) rfl ?_
    refine O.q (Qt.ld rfl (Cel.var 0 rfl) (o := 0) (off := 8) rfl (Cut.one Try.isAgg24 rfl)) rfl ?_
    refine O.p (Pu.move rfl) rfl ?_
    obtain ⟨e8, he8⟩ : ∃ x_, l[k]? = some x_ := ⟨_, List.getElem?_eq_getElem (by first | omega | (simp only [List.length_append, List.length_cons, List.length_nil]; omega))⟩
    refine O.q (Qt.idxM Try.runUnderlying24 Try.sizeOf3 rfl (Src.ro 0 rfl) rfl (by first | omega | (simp only [List.length_append, List.length_cons, List.length_nil]; omega)) (by first | omega | (simp only [List.length_append, List.length_cons, List.length_nil]; omega))) rfl ?_
    refine O.q (Qt.ld rfl (Cel.eltM (Src.ro 0 rfl) he8) (o := (voff jv + k * 1)) (off := 0) (by omega) (Cut.one Try.isAgg3 rfl)) rfl ?_
    refine O.p (Pu.move rfl) rfl ?_
    refine O.p (Pu.neq rfl rfl) rfl ?_
    refine O.nil ?_
    refine J.cond rfl (fun h9 => ?_) (fun h9 => ?_)
    ·
      have p10 := of_decide_eq_true h9
      refine J.region ?_
      refine O.p (Pu.move rfl) rfl ?_
      refine O.p (Pu.fieldAddr (off' := 8) Try.runUnderlying28 rfl Try.sizeOf24 rfl rfl rfl) rfl ?_
      refine O.q (Qt.ld rfl (Cel.var 0 rfl) (o := 0) (off := 8) rfl (Cut.one Try.isAgg24 rfl)) rfl ?_
      refine O.p (Pu.move rfl) rfl ?_
      refine O.q (Qt.idxM Try.runUnderlying24 Try.sizeOf3 rfl (Src.ro 0 rfl) rfl (by first | omega | (simp only [List.length_append, List.length_cons, List.length_nil]; omega)) (by first | omega | (simp only [List.length_append, List.length_cons, List.length_nil]; omega))) rfl ?_
      refine O.q (Qt.ld rfl (Cel.eltM (Src.ro 0 rfl) he8) (o := (voff jv + k * 1)) (off := 0) (by omega) (Cut.one Try.isAgg3 rfl)) rfl ?_
      refine O.l (Lo.buildM (s := 1) encZ [e8] [(0, .int .i64 e8)] (by exact Try.runUnderlying24) (by exact Try.sizeOf3) (by exact Try.zeroValue3) rfl rfl rfl (by kernel_rfl) rfl rfl) rfl ?_
      rintro V11 _ rfl
      refine O.l (Lo.appendM (s := 1) 2 (by exact Try.underlying24) (by exact (info3).1) (by exact (info3).2.1) (by exact (info3).2.2.1) (by exact (info3).2.2.2) rfl rfl rfl rfl rfl (Src.row 0 rfl) encZ.one (by first | omega | (simp only [List.length_append, List.length_cons, List.length_nil]; omega)) (by first | omega | (simp only [List.length_append, List.length_cons, List.length_nil]; omega))) rfl ?_
      rintro V12 _ rfl
      refine O.p (Pu.assign rfl) rfl ?_
      refine O.nil ?_
      refine J.blk ?_
      refine J.region ?_
      refine O.p (Pu.move rfl) rfl ?_
      refine O.p (Pu.add' rfl rfl (by first | omega | (simp only [List.length_append, List.length_cons, List.length_nil, List.length_set]; omega))) rfl ?_
      refine O.p (Pu.assign rfl) rfl ?_
      refine O.nil ?_
      exact J.lp ⟨k + 1, V12, o ++ ([e8])⟩ (show (k + 1) ≤ l.length ∧ (o ++ ([e8])) = Jb.without (l.take (k + 1)) c ∧ (o ++ ([e8])).length ≤ (k + 1) from ⟨by omega, (by rw [hst]; first | exact (Jb.without_next1 he8 (by omega)).symm | exact (Jb.without_next0 he8 (by omega)).symm), (by first | omega | (simp only [List.length_append, List.length_cons, List.length_nil]; omega))⟩) (show l.length - (k + 1) < l.length - k from (by first | omega | (simp only [List.length_append, List.length_cons, List.length_nil]; omega))) ⟨rfl, rfl, rfl, rfl, rfl, (congrArg (fun z => some (Value.int .i64 z)) (by first | rfl | omega : ((k : Int) + 1 : Int) = ((k + 1) : Int))), trivial⟩ [1, 2, 3] (by decide) rfl
    ·
      have p13 := of_decide_eq_false h9
      refine J.skip ?_
      refine J.blk ?_
      refine J.region ?_
      refine O.p (Pu.move rfl) rfl ?_
      refine O.p (Pu.add' rfl rfl (by first | omega | (simp only [List.length_append, List.length_cons, List.length_nil, List.length_set]; omega))) rfl ?_
      refine O.p (Pu.assign rfl) rfl ?_
      refine O.nil ?_
      exact J.lp ⟨k + 1, V, o⟩ (show (k + 1) ≤ l.length ∧ o = Jb.without (l.take (k + 1)) c ∧ o.length ≤ (k + 1) from ⟨by omega, (by rw [hst]; first | exact (Jb.without_next1 he8 (by omega)).symm | exact (Jb.without_next0 he8 (by omega)).symm), (by first | omega | (simp only [List.length_append, List.length_cons, List.length_nil]; omega))⟩) (show l.length - (k + 1) < l.length - k from (by first | omega | (simp only [List.length_append, List.length_cons, List.length_nil]; omega))) ⟨rfl, rfl, rfl, rfl, rfl, (congrArg (fun z => some (Value.int .i64 z)) (by first | rfl | omega : ((k : Int) + 1 : Int) = ((k + 1) : Int))), trivial⟩ [0, 1, 2] (by decide) rfl
  ·
    have p14 := of_decide_eq_false h6
    refine J.exit _ rfl ?_
    refine J.seq ?_
    refine J.seq ?_
    refine J.region ?_
    refine O.p (Pu.move rfl) rfl ?_
    refine O.q (Qt.lenM Try.runUnderlying24 rfl (Src.row 1 rfl)) rfl ?_
    refine O.p (Pu.eql rfl rfl) rfl ?_
    refine O.nil ?_
    refine J.condF rfl (decide_eq_false (by have h1_ := (show o = Jb.without l c from (by rw [hst, List.take_of_length_le (by omega)])); have h_ := List.length_pos_iff.2 hne; rw [← h1_] at h_; omega)) ?_
    refine J.skip ?_
    refine J.seq ?_
    refine J.region ?_
    refine O.p (Pu.fieldAddr (off' := 0) Try.runUnderlying28 rfl Try.sizeOf23 rfl rfl rfl) rfl ?_
    refine O.q (Qt.ld rfl (Cel.var 0 rfl) (o := 0) (off := 0) rfl (Cut.agg [.int .i64 x0, .int .i64 x1, .int .i64 x2, .int .i64 x3, .int .i64 x4, .int .i64 x5, .int .i64 x6] Try.isAgg23 Try.sizeOf23 rfl rfl)) rfl ?_
    refine O.p (Pu.move rfl) rfl ?_
    refine O.one (Src.row 1 rfl) (fun hV15 => ?_)
    refine O.p (Pu.build [(0, .agg #[.int .i64 x0, .int .i64 x1, .int .i64 x2, .int .i64 x3, .int .i64 x4, .int .i64 x5, .int .i64 x6]), (1, .int .i64 2), (2, V)] [.int .i64 x0, .int .i64 x1, .int .i64 x2, .int .i64 x3, .int .i64 x4, .int .i64 x5, .int .i64 x6, .int .i64 2, V] #[(0, 7), (7, 1), (8, 1)] Try.runUnderlying28 Try.zeroValue28 (places28 Try.underlying28) rfl (by cases V <;> first | (simp [Value.oneCell'] at hV15; done) | (kernel_rfl; done))) rfl ?_
    refine O.l0 (Lo.store 2 (vs := [.int .i64 x0, .int .i64 x1, .int .i64 x2, .int .i64 x3, .int .i64 x4, .int .i64 x5, .int .i64 x6, .int .i64 2, V]) [.int .i64 x0, .int .i64 x1, .int .i64 x2, .int .i64 x3, .int .i64 x4, .int .i64 x5, .int .i64 x6, .int .i64 2, V] rfl rfl rfl (by exact Try.sizeOf28) rfl rfl (by simp only [List.all_cons, List.all_nil, Bool.and_true, hV15] <;> rfl) rfl rfl) ?_
    rintro _ _ rfl
    refine O.p (Pu.assign rfl) rfl ?_
    refine O.nil ?_
    exact J.ret (Fin.ret (rs := [.cell 6 28, .tmp 7]) rfl [_, _] ⟨⟨_, _, 0, 0, _, rfl, (Cel.var 2 rfl), rfl, (Cut.agg [.int .i64 x0, .int .i64 x1, .int .i64 x2, .int .i64 x3, .int .i64 x4, .int .i64 x5, .int .i64 x6, .int .i64 2, V] Try.isAgg28 Try.sizeOf28 rfl rfl)⟩, rfl, trivial⟩ [1] (by decide) [row V 3 1 (o.map encZ)] rfl ⟨V, rfl, congrArg (fun (z : List Int) => ([row V 3 1 (z.map encZ)] : List Sp)) (show o = Jb.without l c from (by rw [hst, List.take_of_length_le (by omega)]))⟩)

set_option maxRecDepth 100000 in
theorem r32_HeardE (x0 x1 x2 x3 x4 x5 x6 : Int) (jv : Value) (l : List Int) (c : Int) (hl : l.length ≤ 1000) (hm : c ∈ l) (he : Jb.without l c = []) : Tri Try.prog 33 #[.agg #[.int .i64 x0, .int .i64 x1, .int .i64 x2, .int .i64 x3, .int .i64 x4, .int .i64 x5, .int .i64 x6, .int .i64 2, jv], .int .i64 c, .int .i64 1] [rd jv 1 (l.map encZ)] [] (fun v L' => v = .tuple #[.agg #[.int .i64 0, .int .i64 0, .int .i64 0, .int .i64 0, .int .i64 0, .int .i64 0, .int .i64 0, .int .i64 0, Value.slice none 0 0], .int .i64 1] ∧ L' = []) := by
  refine Tri.enter (args := [.agg #[.int .i64 x0, .int .i64 x1, .int .i64 x2, .int .i64 x3, .int .i64 x4, .int .i64 x5, .int .i64 x6, .int .i64 2, jv], .int .i64 c, .int .i64 1]) (body := _) 54 Try.func33 rfl Try.ntmps33 rfl ?_
  intro w0
  refine J.seq ?_
  refine J.region ?_
  refine O.one (Src.ro 0 rfl) (fun hV2 => ?_)
  refine O.l (Lo.box [.int .i64 x0, .int .i64 x1, .int .i64 x2, .int .i64 x3, .int .i64 x4, .int .i64 x5, .int .i64 x6, .int .i64 2, jv] rfl rfl) rfl ?_
  rintro _ _ ⟨g1, rfl, rfl⟩
  refine O.l (Lo.alloc [.int .i64 0, .int .i64 0, .int .i64 0, .int .i64 0, .int .i64 0, .int .i64 0, .int .i64 0, .int .i64 0, Value.slice none 0 0] (by exact Try.zeroValue28) rfl) rfl ?_
  rintro _ _ ⟨g3, rfl, rfl⟩
  refine O.p (Pu.assign rfl) rfl ?_
  refine O.nil ?_
  refine J.seq ?_
  refine J.seq ?_
  refine J.region ?_
  refine O.p (Pu.fieldAddr (off' := 7) Try.runUnderlying28 rfl Try.sizeOf3 rfl rfl rfl) rfl ?_
  refine O.q (Qt.ld rfl (Cel.var 1 rfl) (o := 0) (off := 7) rfl (Cut.one Try.isAgg3 rfl)) rfl ?_
  refine O.p (Pu.neq rfl rfl) rfl ?_
  refine O.p (Pu.move rfl) rfl ?_
  refine O.gq (t := 13) rfl rfl rfl rfl (Pu.qt (Pu.fieldAddr (off' := 8) Try.runUnderlying28 rfl Try.sizeOf24 rfl rfl rfl)) rfl ?_
  refine O.gq (t := 13) rfl rfl rfl rfl (Qt.ld rfl (Cel.var 1 rfl) (o := 0) (off := 8) rfl (Cut.one Try.isAgg24 rfl)) rfl ?_
  refine O.gq (t := 13) rfl rfl rfl rfl (Pu.qt (Pu.move rfl)) rfl ?_
  refine O.gl (t := 13) rfl rfl rfl rfl (Lo.call [jv, .int .i64 c] (by exact Try.call60) rfl (r32_has jv l c (by omega)) [] [0, 1] (by decide) rfl [var g3 [.int .i64 0, .int .i64 0, .int .i64 0, .int .i64 0, .int .i64 0, .int .i64 0, .int .i64 0, .int .i64 0, Value.slice none 0 0] 28, var g1 [.int .i64 x0, .int .i64 x1, .int .i64 x2, .int .i64 x3, .int .i64 x4, .int .i64 x5, .int .i64 x6, .int .i64 2, jv] 28] rfl (RoOk.ro 0 rfl [] rfl RoOk.nil)) rfl ?_
  rintro _ _ ⟨_, ⟨rfl, rfl⟩, rfl⟩
  refine O.gq (t := 13) rfl rfl rfl rfl (Pu.qt (Pu.not rfl)) rfl ?_
  refine O.p (Pu.pickF rfl rfl rfl) rfl ?_
  refine O.nil ?_
  refine J.condF rfl (not_of_true (decide_eq_true hm)) ?_
  refine J.skip ?_
  refine J.seq ?_
  refine J.seq ?_
  refine J.region ?_
  refine O.p (Pu.move rfl) rfl ?_
  refine O.p (Pu.neq rfl rfl) rfl ?_
  refine O.nil ?_
  refine J.condF rfl rfl ?_
  refine J.skip ?_
  refine J.seq ?_
  refine J.region ?_
  refine O.p (Pu.assign rfl) rfl ?_
  refine O.nil ?_
  refine J.seq ?_
  refine J.seq ?_
  refine J.region ?_
  refine O.p (Pu.assign rfl) rfl ?_
  refine O.nil ?_
  refine J.block ?_
  refine J.nilRow 3 1 ?_
  refine J.loop (X := Nat × Value × List Int) (fun ξ => ξ.1 ≤ l.length ∧ ξ.2.2 = Jb.without (l.take ξ.1) c ∧ ξ.2.2.length ≤ ξ.1) (fun ξ => [(1, .int .i64 c), (3, .pointer (some ⟨g1, 0, none⟩)), (6, .pointer (some ⟨g3, 0, none⟩)), (7, .int .i64 0), (8, ξ.2.1), (9, .int .i64 (ξ.1 : Int))]) (fun ξ => [var g1 [.int .i64 x0, .int .i64 x1, .int .i64 x2, .int .i64 x3, .int .i64 x4, .int .i64 x5, .int .i64 x6, .int .i64 2, jv] 28, row ξ.2.1 3 1 (ξ.2.2.map encZ), var g3 [.int .i64 0, .int .i64 0, .int .i64 0, .int .i64 0, .int .i64 0, .int .i64 0, .int .i64 0, .int .i64 0, Value.slice none 0 0] 28]) (fun ξ => l.length - ξ.1) ⟨0, Value.slice none 0 0, []⟩ (show 0 ≤ l.length ∧ ([]) = Jb.without (l.take 0) c ∧ ([]).length ≤ 0 from ⟨by omega, by simp [Jb.without], by simp⟩) ⟨rfl, rfl, rfl, rfl, rfl, (congrArg (fun z => some (Value.int .i64 z)) (by first | rfl | omega : (0 : Int) = (0 : Int))), trivial⟩ [2, 0, 1] (by decide) rfl ?_
  rintro ⟨k, V, o⟩ hq5
  obtain ⟨hk, hst, hlen⟩ : k ≤ l.length ∧ o = Jb.without (l.take k) c ∧ o.length ≤ k := hq5
  show J _ _ [(1, .int .i64 c), (3, .pointer (some ⟨g1, 0, none⟩)), (6, .pointer (some ⟨g3, 0, none⟩)), (7, .int .i64 0), (8, V), (9, .int .i64 (k : Int))] [var g1 [.int .i64 x0, .int .i64 x1, .int .i64 x2, .int .i64 x3, .int .i64 x4, .int .i64 x5, .int .i64 x6, .int .i64 2, jv] 28, row V 3 1 (o.map encZ), var g3 [.int .i64 0, .int .i64 0, .int .i64 0, .int .i64 0, .int .i64 0, .int .i64 0, .int .i64 0, .int .i64 0, Value.slice none 0 0] 28]
  refine J.seq ?_
  refine J.seq ?_
  refine J.region ?_
  refine O.p (Pu.move rfl) rfl ?_
  refine O.p (Pu.fieldAddr (off' := 8) Try.runUnderlying28 rfl Try.sizeOf24 rfl rfl rfl) rfl ?_
  refine O.q (Qt.ld rfl (Cel.var 0 rfl) (o := 0) (off := 8) rfl (Cut.one Try.isAgg24 rfl)) rfl ?_
  refine O.q (Qt.lenM Try.runUnderlying24 rfl (Src.ro 0 rfl)) rfl ?_
  refine O.p (Pu.lss rfl rfl) rfl ?_
  refine O.nil ?_
  refine J.cond rfl (fun h6 => ?_) (fun h6 => ?_)
  ·
    have p7 := of_decide_eq_true h6
    refine J.skip ?_
    refine J.seq ?_
    refine J.block ?_
    refine J.seq ?_
    refine J.region ?_
    refine O.p (Pu.fieldAddr (off' := 8) Try.runUnderlying28 rfl Try.sizeOf24 rfl rfl rfl) rfl ?_
    refine O.q (Qt.ld rfl (Cel.var 0 rfl) (o := 0) (off := 8) rfl (Cut.one Try.isAgg24 rfl)) rfl ?_
    refine O.p (Pu.move rfl) rfl ?_
    obtain ⟨e8, he8⟩ : ∃ x_, l[k]? = some x_ := ⟨_, List.getElem?_eq_getElem (by first | omega | (simp only [List.length_append, List.length_cons, List.length_nil]; omega))⟩
    refine O.q (Qt.idxM Try.runUnderlying24 Try.sizeOf3 rfl (Src.ro 0 rfl) rfl (by first | omega | (simp only [List.length_append, List.length_cons, List.length_nil]; omega)) (by first | omega | (simp only [List.length_append, List.length_cons, List.length_nil]; omega))) rfl ?_
    refine O.q (Qt.ld rfl (Cel.eltM (Src.ro 0 rfl) he8) (o := (voff jv + k * 1)) (off := 0) (by omega) (Cut.one Try.isAgg3 rfl)) rfl ?_
    refine O.p (Pu.move rfl) rfl ?_
    refine O.p (Pu.neq rfl rfl) rfl ?_
    refine O.nil ?_
    refine J.cond rfl (fun h9 => ?_) (fun h9 => ?_)
    ·
      have p10 := of_decide_eq_true h9
      refine J.region ?_
      refine O.p (Pu.move rfl) rfl ?_
      refine O.p (Pu.fieldAddr (off' := 8) Try.runUnderlying28 rfl Try.sizeOf24 rfl rfl rfl) rfl ?_
      refine O.q (Qt.ld rfl (Cel.var 0 rfl) (o := 0) (off := 8) rfl (Cut.one Try.isAgg24 rfl)) rfl ?_
      refine O.p (Pu.move rfl) rfl ?_
      refine O.q (Qt.idxM Try.runUnderlying24 Try.sizeOf3 rfl (Src.ro 0 rfl) rfl (by first | omega | (simp only [List.length_append, List.length_cons, List.length_nil]; omega)) (by first | omega | (simp only [List.length_append, List.length_cons, List.length_nil]; omega))) rfl ?_
      refine O.q (Qt.ld rfl (Cel.eltM (Src.ro 0 rfl) he8) (o := (voff jv + k * 1)) (off := 0) (by omega) (Cut.one Try.isAgg3 rfl)) rfl ?_
      refine O.l (Lo.buildM (s := 1) encZ [e8] [(0, .int .i64 e8)] (by exact Try.runUnderlying24) (by exact Try.sizeOf3) (by exact Try.zeroValue3) rfl rfl rfl (by kernel_rfl) rfl rfl) rfl ?_
      rintro V11 _ rfl
      refine O.l (Lo.appendM (s := 1) 2 (by exact Try.underlying24) (by exact (info3).1) (by exact (info3).2.1) (by exact (info3).2.2.1) (by exact (info3).2.2.2) rfl rfl rfl rfl rfl (Src.row 0 rfl) encZ.one (by first | omega | (simp only [List.length_append, List.length_cons, List.length_nil]; omega)) (by first | omega | (simp only [List.length_append, List.length_cons, List.length_nil]; omega))) rfl ?_
      rintro V12 _ rfl
      refine O.p (Pu.assign rfl) rfl ?_
      refine O.nil ?_
      refine J.blk ?_
      refine J.region ?_
      refine O.p (Pu.move rfl) rfl ?_
      refine O.p (Pu.add' rfl rfl (by first | omega | (simp only [List.length_append, List.length_cons, List.length_nil, List.length_set]; omega))) rfl ?_
      refine O.p (Pu.assign rfl) rfl ?_
      refine O.nil ?_
      exact J.lp ⟨k + 1, V12, o ++ ([e8])⟩ (show (k + 1) ≤ l.length ∧ (o ++ ([e8])) = Jb.without (l.take (k + 1)) c ∧ (o ++ ([e8])).length ≤ (k + 1) from ⟨by omega, (by rw [hst]; first | exact (Jb.without_next1 he8 (by omega)).symm | exact (Jb.without_next0 he8 (by omega)).symm), (by first | omega | (simp only [List.length_append, List.length_cons, List.length_nil]; omega))⟩) (show l.length - (k + 1) < l.length - k from (by first | omega | (simp only [List.length_append, List.length_cons, List.length_nil]; omega))) ⟨rfl, rfl, rfl, rfl, rfl, (congrArg (fun z => some (Value.int .i64 z)) (by first | rfl | omega : ((k : Int) + 1 : Int) = ((k + 1) : Int))), trivial⟩ [1, 2, 3] (by decide) rfl
    ·
      have p13 := of_decide_eq_false h9
      refine J.skip ?_
      refine J.blk ?_
      refine J.region ?_
      refine O.p (Pu.move rfl) rfl ?_
      refine O.p (Pu.add' rfl rfl (by first | omega | (simp only [List.length_append, List.length_cons, List.length_nil, List.length_set]; omega))) rfl ?_
      refine O.p (Pu.assign rfl) rfl ?_
      refine O.nil ?_
      exact J.lp ⟨k + 1, V, o⟩ (show (k + 1) ≤ l.length ∧ o = Jb.without (l.take (k + 1)) c ∧ o.length ≤ (k + 1) from ⟨by omega, (by rw [hst]; first | exact (Jb.without_next1 he8 (by omega)).symm | exact (Jb.without_next0 he8 (by omega)).symm), (by first | omega | (simp only [List.length_append, List.length_cons, List.length_nil]; omega))⟩) (show l.length - (k + 1) < l.length - k from (by first | omega | (simp only [List.length_append, List.length_cons, List.length_nil]; omega))) ⟨rfl, rfl, rfl, rfl, rfl, (congrArg (fun z => some (Value.int .i64 z)) (by first | rfl | omega : ((k : Int) + 1 : Int) = ((k + 1) : Int))), trivial⟩ [0, 1, 2] (by decide) rfl
  ·
    have p14 := of_decide_eq_false h6
    refine J.exit _ rfl ?_
    refine J.seq ?_
    refine J.seq ?_
    refine J.region ?_
    refine O.p (Pu.move rfl) rfl ?_
    refine O.q (Qt.lenM Try.runUnderlying24 rfl (Src.row 1 rfl)) rfl ?_
    refine O.p (Pu.eql rfl rfl) rfl ?_
    refine O.nil ?_
    refine J.condT rfl (decide_eq_true (by have h1_ := (show o = Jb.without l c from (by rw [hst, List.take_of_length_le (by omega)])); rw [he] at h1_; rw [h1_]; rfl)) ?_
    refine J.seq ?_
    refine J.region ?_
    refine O.p (Pu.build [] [.int .i64 0, .int .i64 0, .int .i64 0, .int .i64 0, .int .i64 0, .int .i64 0, .int .i64 0, .int .i64 0, Value.slice none 0 0] #[(0, 7), (7, 1), (8, 1)] Try.runUnderlying28 Try.zeroValue28 (places28 Try.underlying28) rfl (by kernel_rfl)) rfl ?_
    refine O.l0 (Lo.store 2 (vs := [.int .i64 0, .int .i64 0, .int .i64 0, .int .i64 0, .int .i64 0, .int .i64 0, .int .i64 0, .int .i64 0, Value.slice none 0 0]) [.int .i64 0, .int .i64 0, .int .i64 0, .int .i64 0, .int .i64 0, .int .i64 0, .int .i64 0, .int .i64 0, Value.slice none 0 0] rfl rfl rfl (by exact Try.sizeOf28) rfl rfl rfl rfl rfl) ?_
    rintro _ _ rfl
    refine O.p (Pu.assign rfl) rfl ?_
    refine O.nil ?_
    exact J.ret (Fin.ret (rs := [.cell 6 28, .tmp 7]) rfl [_, _] ⟨⟨_, _, 0, 0, _, rfl, (Cel.var 2 rfl), rfl, (Cut.agg [.int .i64 0, .int .i64 0, .int .i64 0, .int .i64 0, .int .i64 0, .int .i64 0, .int .i64 0, .int .i64 0, Value.slice none 0 0] Try.isAgg28 Try.sizeOf28 rfl rfl)⟩, rfl, trivial⟩ [] (by decide) [] rfl ⟨rfl, rfl⟩)

set_option maxRecDepth 100000 in
theorem jb_Same (x0 x1 x2 x3 x4 x5 x6 : Int) (ph : Int) (jv : Value) (l : List Int) (y0 y1 y2 y3 y4 y5 y6 : Int) (pi : Int) (kv : Value) (m : List Int) (hl : l.length ≤ 1000) (hm : m.length ≤ 1000) : Tri Try.prog 37 #[.agg #[.int .i64 x0, .int .i64 x1, .int .i64 x2, .int .i64 x3, .int .i64 x4, .int .i64 x5, .int .i64 x6, .int .i64 ph, jv], .agg #[.int .i64 y0, .int .i64 y1, .int .i64 y2, .int .i64 y3, .int .i64 y4, .int .i64 y5, .int .i64 y6, .int .i64 pi, kv]] [rd jv 1 (l.map encZ), rd kv 1 (m.map encZ)] [] (fun v L' => v = .bool (decide ([x0, x1, x2, x3, x4, x5, x6, ph] = [y0, y1, y2, y3, y4, y5, y6, pi]) && decide (l = m)) ∧ L' = []) := by
  refine Tri.enter (args := [.agg #[.int .i64 x0, .int .i64 x1, .int .i64 x2, .int .i64 x3, .int .i64 x4, .int .i64 x5, .int .i64 x6, .int .i64 ph, jv], .agg #[.int .i64 y0, .int .i64 y1, .int .i64 y2, .int .i64 y3, .int .i64 y4, .int .i64 y5, .int .i64 y6, .int .i64 pi, kv]]) (body := _) 24 Try.func37 rfl Try.ntmps37 rfl ?_
  intro w0
  refine J.seq ?_
  refine J.region ?_
  refine O.one (Src.ro 0 rfl) (fun hV2 => ?_)
  refine O.l (Lo.box [.int .i64 x0, .int .i64 x1, .int .i64 x2, .int .i64 x3, .int .i64 x4, .int .i64 x5, .int .i64 x6, .int .i64 ph, jv] rfl rfl) rfl ?_
  rintro _ _ ⟨g1, rfl, rfl⟩
  refine O.one (Src.ro 1 rfl) (fun hV4 => ?_)
  refine O.l (Lo.box [.int .i64 y0, .int .i64 y1, .int .i64 y2, .int .i64 y3, .int .i64 y4, .int .i64 y5, .int .i64 y6, .int .i64 pi, kv] rfl rfl) rfl ?_
  rintro _ _ ⟨g3, rfl, rfl⟩
  refine O.p (Pu.assign rfl) rfl ?_
  refine O.nil ?_
  refine J.seq ?_
  refine J.region ?_
  refine O.p (Pu.fieldAddr (off' := 0) Try.runUnderlying28 rfl Try.sizeOf23 rfl rfl rfl) rfl ?_
  refine O.q (Qt.ld rfl (Cel.var 1 rfl) (o := 0) (off := 0) rfl (Cut.agg [.int .i64 x0, .int .i64 x1, .int .i64 x2, .int .i64 x3, .int .i64 x4, .int .i64 x5, .int .i64 x6] Try.isAgg23 Try.sizeOf23 rfl rfl)) rfl ?_
  refine O.p (Pu.fieldAddr (off' := 0) Try.runUnderlying28 rfl Try.sizeOf23 rfl rfl rfl) rfl ?_
  refine O.q (Qt.ld rfl (Cel.var 0 rfl) (o := 0) (off := 0) rfl (Cut.agg [.int .i64 y0, .int .i64 y1, .int .i64 y2, .int .i64 y3, .int .i64 y4, .int .i64 y5, .int .i64 y6] Try.isAgg23 Try.sizeOf23 rfl rfl)) rfl ?_
  refine O.p (Pu.eqlI [x0, x1, x2, x3, x4, x5, x6] [y0, y1, y2, y3, y4, y5, y6] Try.underlying23 Try.stoodInHeld23 Try.eqGuardType23 (fint23 Try.underlying23) rfl rfl rfl rfl) rfl ?_
  refine O.p (Pu.move rfl) rfl ?_
  refine by_bool (decide (([x0, x1, x2, x3, x4, x5, x6] : List Int) = [y0, y1, y2, y3, y4, y5, y6])) (fun h5 => ?_) (fun h5 => ?_)
  ·
    have p6 := of_decide_eq_true h5
    refine O.gq (t := 10) rfl rfl h5 rfl (Pu.qt (Pu.fieldAddr (off' := 7) Try.runUnderlying28 rfl Try.sizeOf3 rfl rfl rfl)) rfl ?_
    refine O.gq (t := 10) rfl rfl h5 rfl (Qt.ld rfl (Cel.var 1 rfl) (o := 0) (off := 7) rfl (Cut.one Try.isAgg3 rfl)) rfl ?_
    refine O.gq (t := 10) rfl rfl h5 rfl (Pu.qt (Pu.fieldAddr (off' := 7) Try.runUnderlying28 rfl Try.sizeOf3 rfl rfl rfl)) rfl ?_
    refine O.gq (t := 10) rfl rfl h5 rfl (Qt.ld rfl (Cel.var 0 rfl) (o := 0) (off := 7) rfl (Cut.one Try.isAgg3 rfl)) rfl ?_
    refine O.gq (t := 10) rfl rfl h5 rfl (Pu.qt (Pu.eql rfl rfl)) rfl ?_
    refine O.p (Pu.pickT rfl h5 rfl) rfl ?_
    refine O.p (Pu.move rfl) rfl ?_
    refine by_bool (decide (ph = pi)) (fun h7 => ?_) (fun h7 => ?_)
    ·
      have p8 := of_decide_eq_true h7
      refine O.gq (t := 17) rfl rfl h7 rfl (Pu.qt (Pu.fieldAddr (off' := 8) Try.runUnderlying28 rfl Try.sizeOf24 rfl rfl rfl)) rfl ?_
      refine O.gq (t := 17) rfl rfl h7 rfl (Qt.ld rfl (Cel.var 1 rfl) (o := 0) (off := 8) rfl (Cut.one Try.isAgg24 rfl)) rfl ?_
      refine O.gq (t := 17) rfl rfl h7 rfl (Pu.qt (Pu.fieldAddr (off' := 8) Try.runUnderlying28 rfl Try.sizeOf24 rfl rfl rfl)) rfl ?_
      refine O.gq (t := 17) rfl rfl h7 rfl (Qt.ld rfl (Cel.var 0 rfl) (o := 0) (off := 8) rfl (Cut.one Try.isAgg24 rfl)) rfl ?_
      refine O.gl (t := 17) rfl rfl h7 rfl (Lo.call [jv, kv] (by exact Try.call62) rfl (s_Equal jv kv l m (by omega) (by omega)) [] [0, 1] (by decide) rfl [var g3 [.int .i64 y0, .int .i64 y1, .int .i64 y2, .int .i64 y3, .int .i64 y4, .int .i64 y5, .int .i64 y6, .int .i64 pi, kv] 28, var g1 [.int .i64 x0, .int .i64 x1, .int .i64 x2, .int .i64 x3, .int .i64 x4, .int .i64 x5, .int .i64 x6, .int .i64 ph, jv] 28] rfl (RoOk.ro 0 rfl [] rfl (RoOk.ro 1 rfl [] rfl RoOk.nil))) rfl ?_
      rintro _ _ ⟨_, ⟨rfl, rfl⟩, rfl⟩
      refine O.p (Pu.pickT rfl h7 rfl) rfl ?_
      refine O.p (Pu.assign rfl) rfl ?_
      refine O.nil ?_
      exact J.ret (Fin.ret (rs := [.tmp 4]) rfl [_] ⟨rfl, trivial⟩ [] (by decide) [] rfl ⟨(by simp_all [vOf]), rfl⟩)
    ·
      have p10 := of_decide_eq_false h7
      refine O.gskip (t := 17) rfl rfl (no_bool (by rw [h7]; decide)) rfl rfl ?_
      refine O.gskip (t := 17) rfl rfl (no_bool (by rw [h7]; decide)) rfl rfl ?_
      refine O.gskip (t := 17) rfl rfl (no_bool (by rw [h7]; decide)) rfl rfl ?_
      refine O.gskip (t := 17) rfl rfl (no_bool (by rw [h7]; decide)) rfl rfl ?_
      refine O.gskip (t := 17) rfl rfl (no_bool (by rw [h7]; decide)) rfl rfl ?_
      refine O.p (Pu.pickF rfl h7 rfl) rfl ?_
      refine O.p (Pu.assign rfl) rfl ?_
      refine O.nil ?_
      exact J.ret (Fin.ret (rs := [.tmp 4]) rfl [_] ⟨rfl, trivial⟩ [] (by decide) [] rfl ⟨(by simp_all [vOf]), rfl⟩)
  ·
    have p11 := of_decide_eq_false h5
    refine O.gskip (t := 10) rfl rfl (no_bool (by rw [h5]; decide)) rfl rfl ?_
    refine O.gskip (t := 10) rfl rfl (no_bool (by rw [h5]; decide)) rfl rfl ?_
    refine O.gskip (t := 10) rfl rfl (no_bool (by rw [h5]; decide)) rfl rfl ?_
    refine O.gskip (t := 10) rfl rfl (no_bool (by rw [h5]; decide)) rfl rfl ?_
    refine O.gskip (t := 10) rfl rfl (no_bool (by rw [h5]; decide)) rfl rfl ?_
    refine O.p (Pu.pickF rfl h5 rfl) rfl ?_
    refine O.p (Pu.move rfl) rfl ?_
    refine O.gskip (t := 17) rfl rfl (no_bool (by decide)) rfl rfl ?_
    refine O.gskip (t := 17) rfl rfl (no_bool (by decide)) rfl rfl ?_
    refine O.gskip (t := 17) rfl rfl (no_bool (by decide)) rfl rfl ?_
    refine O.gskip (t := 17) rfl rfl (no_bool (by decide)) rfl rfl ?_
    refine O.gskip (t := 17) rfl rfl (no_bool (by decide)) rfl rfl ?_
    refine O.p (Pu.pickF rfl rfl rfl) rfl ?_
    refine O.p (Pu.assign rfl) rfl ?_
    refine O.nil ?_
    exact J.ret (Fin.ret (rs := [.tmp 4]) rfl [_] ⟨rfl, trivial⟩ [] (by decide) [] rfl ⟨(by simp_all [vOf]), rfl⟩)

set_option maxRecDepth 100000 in
theorem r32_Same (x0 x1 x2 x3 x4 x5 x6 : Int) (ph : Int) (jv : Value) (l : List Int) (y0 y1 y2 y3 y4 y5 y6 : Int) (pi : Int) (kv : Value) (m : List Int) (hl : l.length ≤ 1000) (hm : m.length ≤ 1000) : Tri Try.prog 15 #[.agg #[.int .i64 x0, .int .i64 x1, .int .i64 x2, .int .i64 x3, .int .i64 x4, .int .i64 x5, .int .i64 x6, .int .i64 ph, jv], .agg #[.int .i64 y0, .int .i64 y1, .int .i64 y2, .int .i64 y3, .int .i64 y4, .int .i64 y5, .int .i64 y6, .int .i64 pi, kv]] [rd jv 1 (l.map encZ), rd kv 1 (m.map encZ)] [] (fun v L' => v = .bool (decide ([x0, x1, x2, x3, x4, x5, x6, ph] = [y0, y1, y2, y3, y4, y5, y6, pi]) && decide (l = m)) ∧ L' = []) := by
  refine Tri.enter (args := [.agg #[.int .i64 x0, .int .i64 x1, .int .i64 x2, .int .i64 x3, .int .i64 x4, .int .i64 x5, .int .i64 x6, .int .i64 ph, jv], .agg #[.int .i64 y0, .int .i64 y1, .int .i64 y2, .int .i64 y3, .int .i64 y4, .int .i64 y5, .int .i64 y6, .int .i64 pi, kv]]) (body := _) 52 Try.func15 rfl Try.ntmps15 rfl ?_
  intro w0
  refine J.seq ?_
  refine J.region ?_
  refine O.one (Src.ro 0 rfl) (fun hV2 => ?_)
  refine O.l (Lo.box [.int .i64 x0, .int .i64 x1, .int .i64 x2, .int .i64 x3, .int .i64 x4, .int .i64 x5, .int .i64 x6, .int .i64 ph, jv] rfl rfl) rfl ?_
  rintro _ _ ⟨g1, rfl, rfl⟩
  refine O.one (Src.ro 1 rfl) (fun hV4 => ?_)
  refine O.l (Lo.box [.int .i64 y0, .int .i64 y1, .int .i64 y2, .int .i64 y3, .int .i64 y4, .int .i64 y5, .int .i64 y6, .int .i64 pi, kv] rfl rfl) rfl ?_
  rintro _ _ ⟨g3, rfl, rfl⟩
  refine O.p (Pu.assign rfl) rfl ?_
  refine O.nil ?_
  refine J.seq ?_
  refine J.seq ?_
  refine J.region ?_
  refine O.p (Pu.fieldAddr (off' := 0) Try.runUnderlying28 rfl Try.sizeOf23 rfl rfl rfl) rfl ?_
  refine O.q (Qt.ld rfl (Cel.var 1 rfl) (o := 0) (off := 0) rfl (Cut.agg [.int .i64 x0, .int .i64 x1, .int .i64 x2, .int .i64 x3, .int .i64 x4, .int .i64 x5, .int .i64 x6] Try.isAgg23 Try.sizeOf23 rfl rfl)) rfl ?_
  refine O.p (Pu.fieldAddr (off' := 0) Try.runUnderlying28 rfl Try.sizeOf23 rfl rfl rfl) rfl ?_
  refine O.q (Qt.ld rfl (Cel.var 0 rfl) (o := 0) (off := 0) rfl (Cut.agg [.int .i64 y0, .int .i64 y1, .int .i64 y2, .int .i64 y3, .int .i64 y4, .int .i64 y5, .int .i64 y6] Try.isAgg23 Try.sizeOf23 rfl rfl)) rfl ?_
  refine O.p (Pu.neqI [x0, x1, x2, x3, x4, x5, x6] [y0, y1, y2, y3, y4, y5, y6] Try.underlying23 Try.stoodInHeld23 Try.eqGuardType23 (fint23 Try.underlying23) rfl rfl rfl rfl) rfl ?_
  refine O.p (Pu.move rfl) rfl ?_
  refine by_bool (!(decide (([x0, x1, x2, x3, x4, x5, x6] : List Int) = [y0, y1, y2, y3, y4, y5, y6]))) (fun h5 => ?_) (fun h5 => ?_)
  ·
    have h6 : (decide (([x0, x1, x2, x3, x4, x5, x6] : List Int) = [y0, y1, y2, y3, y4, y5, y6])) = false := not_flip h5
    have p7 := of_decide_eq_false h6
    refine O.gskip (t := 11) rfl rfl (no_bool (by rw [h5]; decide)) rfl rfl ?_
    refine O.gskip (t := 11) rfl rfl (no_bool (by rw [h5]; decide)) rfl rfl ?_
    refine O.gskip (t := 11) rfl rfl (no_bool (by rw [h5]; decide)) rfl rfl ?_
    refine O.gskip (t := 11) rfl rfl (no_bool (by rw [h5]; decide)) rfl rfl ?_
    refine O.gskip (t := 11) rfl rfl (no_bool (by rw [h5]; decide)) rfl rfl ?_
    refine O.p (Pu.pickT rfl h5 rfl) rfl ?_
    refine O.p (Pu.move rfl) rfl ?_
    refine O.gskip (t := 18) rfl rfl (no_bool (by decide)) rfl rfl ?_
    refine O.gskip (t := 18) rfl rfl (no_bool (by decide)) rfl rfl ?_
    refine O.gskip (t := 18) rfl rfl (no_bool (by decide)) rfl rfl ?_
    refine O.gskip (t := 18) rfl rfl (no_bool (by decide)) rfl rfl ?_
    refine O.gskip (t := 18) rfl rfl (no_bool (by decide)) rfl rfl ?_
    refine O.gskip (t := 18) rfl rfl (no_bool (by decide)) rfl rfl ?_
    refine O.gskip (t := 18) rfl rfl (no_bool (by decide)) rfl rfl ?_
    refine O.p (Pu.pickT rfl rfl rfl) rfl ?_
    refine O.nil ?_
    refine J.condT rfl rfl ?_
    refine J.seq ?_
    refine J.region ?_
    refine O.p (Pu.assign rfl) rfl ?_
    refine O.nil ?_
    exact J.ret (Fin.ret (rs := [.tmp 4]) rfl [_] ⟨rfl, trivial⟩ [] (by decide) [] rfl ⟨(by first | (simp_all [vOf]; done) | (have h_ : l ≠ m := (fun h_ => by subst h_; omega); simp_all [vOf])), rfl⟩)
  ·
    have h8 : (decide (([x0, x1, x2, x3, x4, x5, x6] : List Int) = [y0, y1, y2, y3, y4, y5, y6])) = true := not_flip h5
    have p9 := of_decide_eq_true h8
    refine O.gq (t := 11) rfl rfl h5 rfl (Pu.qt (Pu.fieldAddr (off' := 7) Try.runUnderlying28 rfl Try.sizeOf3 rfl rfl rfl)) rfl ?_
    refine O.gq (t := 11) rfl rfl h5 rfl (Qt.ld rfl (Cel.var 1 rfl) (o := 0) (off := 7) rfl (Cut.one Try.isAgg3 rfl)) rfl ?_
    refine O.gq (t := 11) rfl rfl h5 rfl (Pu.qt (Pu.fieldAddr (off' := 7) Try.runUnderlying28 rfl Try.sizeOf3 rfl rfl rfl)) rfl ?_
    refine O.gq (t := 11) rfl rfl h5 rfl (Qt.ld rfl (Cel.var 0 rfl) (o := 0) (off := 7) rfl (Cut.one Try.isAgg3 rfl)) rfl ?_
    refine O.gq (t := 11) rfl rfl h5 rfl (Pu.qt (Pu.neq rfl rfl)) rfl ?_
    refine O.p (Pu.pickF rfl h5 rfl) rfl ?_
    refine O.p (Pu.move rfl) rfl ?_
    refine by_bool (decide (ph ≠ pi)) (fun h10 => ?_) (fun h10 => ?_)
    ·
      have p11 := of_decide_eq_true h10
      refine O.gskip (t := 18) rfl rfl (no_bool (by rw [h10]; decide)) rfl rfl ?_
      refine O.gskip (t := 18) rfl rfl (no_bool (by rw [h10]; decide)) rfl rfl ?_
      refine O.gskip (t := 18) rfl rfl (no_bool (by rw [h10]; decide)) rfl rfl ?_
      refine O.gskip (t := 18) rfl rfl (no_bool (by rw [h10]; decide)) rfl rfl ?_
      refine O.gskip (t := 18) rfl rfl (no_bool (by rw [h10]; decide)) rfl rfl ?_
      refine O.gskip (t := 18) rfl rfl (no_bool (by rw [h10]; decide)) rfl rfl ?_
      refine O.gskip (t := 18) rfl rfl (no_bool (by rw [h10]; decide)) rfl rfl ?_
      refine O.p (Pu.pickT rfl h10 rfl) rfl ?_
      refine O.nil ?_
      refine J.condT rfl rfl ?_
      refine J.seq ?_
      refine J.region ?_
      refine O.p (Pu.assign rfl) rfl ?_
      refine O.nil ?_
      exact J.ret (Fin.ret (rs := [.tmp 4]) rfl [_] ⟨rfl, trivial⟩ [] (by decide) [] rfl ⟨(by first | (simp_all [vOf]; done) | (have h_ : l ≠ m := (fun h_ => by subst h_; omega); simp_all [vOf])), rfl⟩)
    ·
      have p12 := of_decide_eq_false h10
      refine O.gq (t := 18) rfl rfl h10 rfl (Pu.qt (Pu.fieldAddr (off' := 8) Try.runUnderlying28 rfl Try.sizeOf24 rfl rfl rfl)) rfl ?_
      refine O.gq (t := 18) rfl rfl h10 rfl (Qt.ld rfl (Cel.var 1 rfl) (o := 0) (off := 8) rfl (Cut.one Try.isAgg24 rfl)) rfl ?_
      refine O.gq (t := 18) rfl rfl h10 rfl (Qt.lenM Try.runUnderlying24 rfl (Src.ro 0 rfl)) rfl ?_
      refine O.gq (t := 18) rfl rfl h10 rfl (Pu.qt (Pu.fieldAddr (off' := 8) Try.runUnderlying28 rfl Try.sizeOf24 rfl rfl rfl)) rfl ?_
      refine O.gq (t := 18) rfl rfl h10 rfl (Qt.ld rfl (Cel.var 0 rfl) (o := 0) (off := 8) rfl (Cut.one Try.isAgg24 rfl)) rfl ?_
      refine O.gq (t := 18) rfl rfl h10 rfl (Qt.lenM Try.runUnderlying24 rfl (Src.ro 1 rfl)) rfl ?_
      refine O.gq (t := 18) rfl rfl h10 rfl (Pu.qt (Pu.neq rfl rfl)) rfl ?_
      refine O.p (Pu.pickF rfl h10 rfl) rfl ?_
      refine O.nil ?_
      refine J.cond rfl (fun h13 => ?_) (fun h13 => ?_)
      ·
        have p14 := of_decide_eq_true h13
        refine J.seq ?_
        refine J.region ?_
        refine O.p (Pu.assign rfl) rfl ?_
        refine O.nil ?_
        exact J.ret (Fin.ret (rs := [.tmp 4]) rfl [_] ⟨rfl, trivial⟩ [] (by decide) [] rfl ⟨(by first | (simp_all [vOf]; done) | (have h_ : l ≠ m := (fun h_ => by subst h_; omega); simp_all [vOf])), rfl⟩)
      ·
        have p15 := of_decide_eq_false h13
        refine J.skip ?_
        refine J.seq ?_
        refine J.seq ?_
        refine J.region ?_
        refine O.p (Pu.assign rfl) rfl ?_
        refine O.nil ?_
        refine J.block ?_
        refine J.loop (X := Nat) (fun ξ => ξ ≤ l.length ∧ l.length = m.length ∧ l.take ξ = m.take ξ) (fun ξ => [(2, .pointer (some ⟨g1, 0, none⟩)), (3, .pointer (some ⟨g3, 0, none⟩)), (5, .int .i64 (ξ : Int))]) (fun ξ => [var g1 [.int .i64 x0, .int .i64 x1, .int .i64 x2, .int .i64 x3, .int .i64 x4, .int .i64 x5, .int .i64 x6, .int .i64 ph, jv] 28, var g3 [.int .i64 y0, .int .i64 y1, .int .i64 y2, .int .i64 y3, .int .i64 y4, .int .i64 y5, .int .i64 y6, .int .i64 pi, kv] 28]) (fun ξ => l.length - ξ) 0 (show 0 ≤ l.length ∧ l.length = m.length ∧ l.take 0 = m.take 0 from ⟨by omega, by omega, rfl⟩) ⟨rfl, rfl, (congrArg (fun z => some (Value.int .i64 z)) (by first | rfl | omega : (0 : Int) = (0 : Int))), trivial⟩ [1, 0] (by decide) rfl ?_
        rintro k hq16
        obtain ⟨hk, hlm, hst⟩ : k ≤ l.length ∧ l.length = m.length ∧ l.take k = m.take k := hq16
        show J _ _ [(2, .pointer (some ⟨g1, 0, none⟩)), (3, .pointer (some ⟨g3, 0, none⟩)), (5, .int .i64 (k : Int))] [var g1 [.int .i64 x0, .int .i64 x1, .int .i64 x2, .int .i64 x3, .int .i64 x4, .int .i64 x5, .int .i64 x6, .int .i64 ph, jv] 28, var g3 [.int .i64 y0, .int .i64 y1, .int .i64 y2, .int .i64 y3, .int .i64 y4, .int .i64 y5, .int .i64 y6, .int .i64 pi, kv] 28]
        refine J.seq ?_
        refine J.seq ?_
        refine J.region ?_
        refine O.p (Pu.move rfl) rfl ?_
        refine O.p (Pu.fieldAddr (off' := 8) Try.runUnderlying28 rfl Try.sizeOf24 rfl rfl rfl) rfl ?_
        refine O.q (Qt.ld rfl (Cel.var 0 rfl) (o := 0) (off := 8) rfl (Cut.one Try.isAgg24 rfl)) rfl ?_
        refine O.q (Qt.lenM Try.runUnderlying24 rfl (Src.ro 0 rfl)) rfl ?_
        refine O.p (Pu.lss rfl rfl) rfl ?_
        refine O.p (Pu.move rfl) rfl ?_
        refine by_bool (decide ((k : Int) < (l.length : Int))) (fun h17 => ?_) (fun h17 => ?_)
        ·
          have p18 := of_decide_eq_true h17
          refine O.gq (t := 32) rfl rfl h17 rfl (Pu.qt (Pu.move rfl)) rfl ?_
          refine O.gq (t := 32) rfl rfl h17 rfl (Pu.qt (Pu.fieldAddr (off' := 8) Try.runUnderlying28 rfl Try.sizeOf24 rfl rfl rfl)) rfl ?_
          refine O.gq (t := 32) rfl rfl h17 rfl (Qt.ld rfl (Cel.var 1 rfl) (o := 0) (off := 8) rfl (Cut.one Try.isAgg24 rfl)) rfl ?_
          refine O.gq (t := 32) rfl rfl h17 rfl (Qt.lenM Try.runUnderlying24 rfl (Src.ro 1 rfl)) rfl ?_
          refine O.gq (t := 32) rfl rfl h17 rfl (Pu.qt (Pu.lss rfl rfl)) rfl ?_
          refine O.p (Pu.pickT rfl h17 rfl) rfl ?_
          refine O.nil ?_
          refine J.cond rfl (fun h19 => ?_) (fun h19 => ?_)
          ·
            have p20 := of_decide_eq_true h19
            refine J.skip ?_
            refine J.seq ?_
            refine J.block ?_
            refine J.seq ?_
            refine J.drawStill Try.mixed (by kernel_rfl) ?_
            refine S.p (Pu.fieldAddr (off' := 8) Try.runUnderlying28 rfl Try.sizeOf24 rfl rfl rfl) rfl ?_
            refine S.q (Qt.ld rfl (Cel.var 0 rfl) (o := 0) (off := 8) rfl (Cut.one Try.isAgg24 rfl)) rfl ?_
            refine S.p (Pu.move rfl) rfl ?_
            obtain ⟨e21, he21⟩ : ∃ x_, l[k]? = some x_ := ⟨_, List.getElem?_eq_getElem (by omega)⟩
            refine S.q (Qt.idxM Try.runUnderlying24 Try.sizeOf3 rfl (Src.ro 0 rfl) rfl (by omega) (by omega)) rfl ?_
            refine S.q (Qt.ld rfl (Cel.eltM (Src.ro 0 rfl) he21) (o := (voff jv + k * 1)) (off := 0) (by omega) (Cut.one Try.isAgg3 rfl)) rfl ?_
            refine S.p (Pu.fieldAddr (off' := 8) Try.runUnderlying28 rfl Try.sizeOf24 rfl rfl rfl) rfl ?_
            refine S.q (Qt.ld rfl (Cel.var 1 rfl) (o := 0) (off := 8) rfl (Cut.one Try.isAgg24 rfl)) rfl ?_
            refine S.p (Pu.move rfl) rfl ?_
            obtain ⟨e22, he22⟩ : ∃ x_, m[k]? = some x_ := ⟨_, List.getElem?_eq_getElem (by omega)⟩
            refine S.q (Qt.idxM Try.runUnderlying24 Try.sizeOf3 rfl (Src.ro 1 rfl) rfl (by omega) (by omega)) rfl ?_
            refine S.q (Qt.ld rfl (Cel.eltM (Src.ro 1 rfl) he22) (o := (voff kv + k * 1)) (off := 0) (by omega) (Cut.one Try.isAgg3 rfl)) rfl ?_
            refine S.p (Pu.neq rfl rfl) rfl ?_
            refine S.endJ ?_
            refine J.cond rfl (fun h23 => ?_) (fun h23 => ?_)
            ·
              have p24 := of_decide_eq_true h23
              refine J.seq ?_
              refine J.region ?_
              refine O.p (Pu.assign rfl) rfl ?_
              refine O.nil ?_
              exact J.ret (Fin.ret (rs := [.tmp 4]) rfl [_] ⟨rfl, trivial⟩ [] (by decide) [] rfl ⟨(by have h_ : l ≠ m := (fun h_ => by subst h_; have h2_ := he21.symm.trans he22; cases h2_; omega); simp_all [vOf]), rfl⟩)
            ·
              have p25 := of_decide_eq_false h23
              refine J.skip ?_
              refine J.blk ?_
              refine J.region ?_
              refine O.p (Pu.move rfl) rfl ?_
              refine O.p (Pu.add' rfl rfl (by first | omega | (simp only [List.length_append, List.length_cons, List.length_nil, List.length_set]; omega))) rfl ?_
              refine O.p (Pu.assign rfl) rfl ?_
              refine O.nil ?_
              exact J.lp (k + 1) (show (k + 1) ≤ l.length ∧ l.length = m.length ∧ l.take (k + 1) = m.take (k + 1) from ⟨by omega, hlm, (by rw [List.take_add_one, List.take_add_one, hst, he21, he22, (Decidable.not_not.1 (by assumption) : e21 = e22)])⟩) (show l.length - (k + 1) < l.length - k from (by omega)) ⟨rfl, rfl, (congrArg (fun z => some (Value.int .i64 z)) (by first | rfl | omega : ((k : Int) + 1 : Int) = ((k + 1) : Int))), trivial⟩ [0, 1] (by decide) rfl
          ·
            have p26 := of_decide_eq_false h19
            refine J.exit _ rfl ?_
            refine J.seq ?_
            refine J.region ?_
            refine O.p (Pu.assign rfl) rfl ?_
            refine O.nil ?_
            exact J.ret (Fin.ret (rs := [.tmp 4]) rfl [_] ⟨rfl, trivial⟩ [] (by decide) [] rfl ⟨(by have h_ : l = m := (by rw [List.take_of_length_le (by omega), List.take_of_length_le (by omega)] at hst; exact hst); simp_all [vOf]), rfl⟩)
        ·
          have p27 := of_decide_eq_false h17
          refine O.gskip (t := 32) rfl rfl (no_bool (by rw [h17]; decide)) rfl rfl ?_
          refine O.gskip (t := 32) rfl rfl (no_bool (by rw [h17]; decide)) rfl rfl ?_
          refine O.gskip (t := 32) rfl rfl (no_bool (by rw [h17]; decide)) rfl rfl ?_
          refine O.gskip (t := 32) rfl rfl (no_bool (by rw [h17]; decide)) rfl rfl ?_
          refine O.gskip (t := 32) rfl rfl (no_bool (by rw [h17]; decide)) rfl rfl ?_
          refine O.p (Pu.pickF rfl h17 rfl) rfl ?_
          refine O.nil ?_
          refine J.condF rfl rfl ?_
          refine J.exit _ rfl ?_
          refine J.seq ?_
          refine J.region ?_
          refine O.p (Pu.assign rfl) rfl ?_
          refine O.nil ?_
          exact J.ret (Fin.ret (rs := [.tmp 4]) rfl [_] ⟨rfl, trivial⟩ [] (by decide) [] rfl ⟨(by have h_ : l = m := (by rw [List.take_of_length_le (by omega), List.take_of_length_le (by omega)] at hst; exact hst); simp_all [vOf]), rfl⟩)

end Go.Proofs.Ytnkhmbbnabejhaa
