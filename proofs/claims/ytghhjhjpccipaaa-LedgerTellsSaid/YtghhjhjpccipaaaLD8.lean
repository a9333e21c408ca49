/-
  Walks, printed by a program of mine (lk.py): each function meets its contract.
-/
import Derived.KernelRfl
import Derived.Test.YtghhjhjpccipaaaLD7
namespace Go.Proofs.Ytghhjhjpccipaaa
open Go Go.LK
set_option linter.unusedSimpArgs false

set_option maxRecDepth 100000 in
theorem sl_equal (av bv : Value) (l : List Ft) (hl : l.length ≤ 100000) : Tri Try.prog 75 #[av, bv] [rd av 8 (l.map Ft.cells), rd bv 8 (l.map Ft.cells)] [] (fun v L' => v = .bool true ∧ L' = []) := by
  refine Tri.enter (args := [av, bv]) (body := _) 26 Try.func75 rfl Try.ntmps75 rfl ?_
  intro w0
  refine J.seq ?_
  refine J.region ?_
  refine O.p (Pu.assign rfl) rfl ?_
  refine O.nil ?_
  refine J.seq ?_
  refine J.seq ?_
  refine J.region ?_
  refine O.p (Pu.move rfl) rfl ?_
  refine O.q (Qt.lenM Try.runUnderlying55 rfl (Src.ro 0 rfl)) rfl ?_
  refine O.p (Pu.move rfl) rfl ?_
  refine O.q (Qt.lenM Try.runUnderlying55 rfl (Src.ro 1 rfl)) rfl ?_
  refine O.p (Pu.neq rfl rfl) rfl ?_
  refine O.nil ?_
  refine J.condF rfl (by simp) ?_
  refine J.skip ?_
  refine J.seq ?_
  refine J.seq ?_
  refine J.region ?_
  refine O.p (Pu.move rfl) rfl ?_
  refine O.q (Qt.lenM Try.runUnderlying55 rfl (Src.ro 0 rfl)) rfl ?_
  refine O.p (Pu.move rfl) rfl ?_
  refine O.nil ?_
  refine J.block ?_
  refine J.loop (X := Nat) (fun ξ => ξ ≤ l.length) (fun ξ => [(0, av), (1, bv), (12, .int .i64 (l.length : Int)), (13, .int .i64 (ξ : Int))]) (fun ξ => []) (fun ξ => l.length - ξ) 0 (show 0 ≤ l.length from (by omega)) ⟨rfl, rfl, rfl, (congrArg (fun z => some (Value.int .i64 z)) (by first | rfl | omega : (0 : Int) = (0 : Int))), trivial⟩ [] (by decide) rfl ?_
  rintro k hq1
  obtain hk : k ≤ l.length := hq1
  show J _ _ [(0, av), (1, bv), (12, .int .i64 (l.length : Int)), (13, .int .i64 (k : Int))] []
  refine J.seq ?_
  refine J.region ?_
  refine O.p (Pu.lss rfl rfl) rfl ?_
  refine O.nil ?_
  refine J.seq ?_
  refine J.cond rfl (fun h2 => ?_) (fun h2 => ?_)
  ·
    have p3 := of_decide_eq_true h2
    refine J.skip ?_
    refine J.seq ?_
    refine J.block ?_
    refine J.seq ?_
    refine J.region ?_
    refine O.p (Pu.move rfl) rfl ?_
    refine O.p (Pu.assign rfl) rfl ?_
    refine O.nil ?_
    refine J.seq ?_
    refine J.drawStill Try.mixed (by kernel_rfl) ?_
    refine S.p (Pu.move rfl) rfl ?_
    refine S.p (Pu.move rfl) rfl ?_
    obtain ⟨e4, he4⟩ : ∃ x_, l[k]? = some x_ := ⟨_, List.getElem?_eq_getElem (by first | omega | (simp only [List.length_append, List.length_cons, List.length_nil, List.length_set]; omega))⟩
    refine S.q (Qt.idxM Try.runUnderlying55 Try.sizeOf61 rfl (Src.ro 0 rfl) rfl (by first | omega | (simp only [List.length_append, List.length_cons, List.length_nil, List.length_set]; omega)) (by first | omega | (simp only [List.length_append, List.length_cons, List.length_nil, List.length_set]; omega))) rfl ?_
    refine S.q (Qt.ld rfl (Cel.eltM (Src.ro 0 rfl) he4) (o := (voff av + k * 8)) (off := 0) (by omega) (Cut.agg [.int .i64 e4.s, .int .i64 e4.id, .int .i64 e4.state, .int .i64 e4.level, .int .i64 e4.code, .int .i64 e4.came, .int .i64 e4.began, .int .i64 e4.ended] Try.isAgg61 Try.sizeOf61 rfl rfl)) rfl ?_
    refine S.p (Pu.move rfl) rfl ?_
    refine S.p (Pu.move rfl) rfl ?_
    refine S.q (Qt.idxM Try.runUnderlying55 Try.sizeOf61 rfl (Src.ro 1 rfl) rfl (by first | omega | (simp only [List.length_append, List.length_cons, List.length_nil, List.length_set]; omega)) (by first | omega | (simp only [List.length_append, List.length_cons, List.length_nil, List.length_set]; omega))) rfl ?_
    refine S.q (Qt.ld rfl (Cel.eltM (Src.ro 1 rfl) he4) (o := (voff bv + k * 8)) (off := 0) (by omega) (Cut.agg [.int .i64 e4.s, .int .i64 e4.id, .int .i64 e4.state, .int .i64 e4.level, .int .i64 e4.code, .int .i64 e4.came, .int .i64 e4.began, .int .i64 e4.ended] Try.isAgg61 Try.sizeOf61 rfl rfl)) rfl ?_
    refine S.p (Pu.neqI [e4.s, e4.id, e4.state, e4.level, e4.code, e4.came, e4.began, e4.ended] [e4.s, e4.id, e4.state, e4.level, e4.code, e4.came, e4.began, e4.ended] Try.underlying61 Try.stoodInHeld61 Try.eqGuardType61 (fint61 Try.underlying61) rfl rfl rfl rfl) rfl ?_
    refine S.endJ ?_
    refine J.condF rfl (not_of_true (by simp)) ?_
    refine J.skip ?_
    refine J.blk ?_
    refine J.region ?_
    refine O.p (Pu.add' rfl rfl (by first | omega | (simp only [List.length_append, List.length_cons, List.length_nil, List.length_set]; omega))) rfl ?_
    refine O.p (Pu.move rfl) rfl ?_
    refine O.nil ?_
    exact J.lp (k + 1) (show (k + 1) ≤ l.length from (by omega)) (show l.length - (k + 1) < l.length - k from (by first | omega | (simp only [List.length_append, List.length_cons, List.length_nil, List.length_set]; omega))) ⟨rfl, rfl, rfl, (congrArg (fun z => some (Value.int .i64 z)) (by first | rfl | omega : ((k : Int) + 1 : Int) = ((k + 1) : Int))), trivial⟩ [] (by decide) rfl
  ·
    have p5 := of_decide_eq_false h2
    refine J.exit _ rfl ?_
    refine J.seq ?_
    refine J.region ?_
    refine O.p (Pu.assign rfl) rfl ?_
    refine O.nil ?_
    exact J.ret (Fin.ret (rs := [.tmp 4]) rfl [_] ⟨rfl, trivial⟩ [] (by decide) [] rfl ⟨rfl, rfl⟩)

set_option maxRecDepth 100000 in
theorem ld_Same (av bv : Value) (l : List Ft) (hl : l.length ≤ 100000) : Tri Try.prog 38 #[av, bv] [rd av 8 (l.map Ft.cells), rd bv 8 (l.map Ft.cells)] [] (fun v L' => v = .bool true ∧ L' = []) := by
  refine Tri.enter (args := [av, bv]) (body := _) 8 Try.func38 rfl Try.ntmps38 rfl ?_
  intro w0
  refine J.seq ?_
  refine J.region ?_
  refine O.p (Pu.assign rfl) rfl ?_
  refine O.nil ?_
  refine J.seq ?_
  refine J.region ?_
  refine O.p (Pu.move rfl) rfl ?_
  refine O.p (Pu.move rfl) rfl ?_
  refine O.l (Lo.call [av, bv] (by exact Try.call75) rfl (sl_equal av bv l (by omega)) [] [] (by decide) rfl _ rfl (RoOk.ro 0 rfl [] rfl (RoOk.ro 1 rfl [] rfl RoOk.nil))) rfl ?_
  rintro _ _ ⟨_, ⟨rfl, rfl⟩, rfl⟩
  refine O.p (Pu.assign rfl) rfl ?_
  refine O.nil ?_
  exact J.ret (Fin.ret (rs := [.tmp 4]) rfl [_] ⟨rfl, trivial⟩ [] (by decide) [] rfl ⟨rfl, rfl⟩)

set_option maxRecDepth 100000 in
theorem r41_Same (av bv : Value) (l : List Ft) (hl : l.length ≤ 100000) : Tri Try.prog 32 #[av, bv] [rd av 8 (l.map Ft.cells), rd bv 8 (l.map Ft.cells)] [] (fun v L' => v = .bool true ∧ L' = []) := by
  refine Tri.enter (args := [av, bv]) (body := _) 32 Try.func32 rfl Try.ntmps32 rfl ?_
  intro w0
  refine J.seq ?_
  refine J.region ?_
  refine O.p (Pu.assign rfl) rfl ?_
  refine O.nil ?_
  refine J.seq ?_
  refine J.seq ?_
  refine J.region ?_
  refine O.p (Pu.move rfl) rfl ?_
  refine O.q (Qt.lenM Try.runUnderlying55 rfl (Src.ro 0 rfl)) rfl ?_
  refine O.p (Pu.move rfl) rfl ?_
  refine O.q (Qt.lenM Try.runUnderlying55 rfl (Src.ro 1 rfl)) rfl ?_
  refine O.p (Pu.neq rfl rfl) rfl ?_
  refine O.nil ?_
  refine J.condF rfl (by simp) ?_
  refine J.skip ?_
  refine J.seq ?_
  refine J.seq ?_
  refine J.region ?_
  refine O.p (Pu.assign rfl) rfl ?_
  refine O.nil ?_
  refine J.block ?_
  refine J.loop (X := Nat) (fun ξ => ξ ≤ l.length) (fun ξ => [(0, av), (1, bv), (5, .int .i64 (ξ : Int))]) (fun ξ => []) (fun ξ => l.length - ξ) 0 (show 0 ≤ l.length from (by omega)) ⟨rfl, rfl, (congrArg (fun z => some (Value.int .i64 z)) (by first | rfl | omega : (0 : Int) = (0 : Int))), trivial⟩ [] (by decide) rfl ?_
  rintro k hq1
  obtain hk : k ≤ l.length := hq1
  show J _ _ [(0, av), (1, bv), (5, .int .i64 (k : Int))] []
  refine J.seq ?_
  refine J.seq ?_
  refine J.region ?_
  refine O.p (Pu.move rfl) rfl ?_
  refine O.p (Pu.move rfl) rfl ?_
  refine O.q (Qt.lenM Try.runUnderlying55 rfl (Src.ro 0 rfl)) rfl ?_
  refine O.p (Pu.lss rfl rfl) rfl ?_
  refine O.p (Pu.move rfl) rfl ?_
  refine by_bool (decide ((k : Int) < (l.length : Int))) (fun h2 => ?_) (fun h2 => ?_)
  ·
    have p3 := of_decide_eq_true h2
    refine O.gq (t := 15) rfl rfl h2 rfl (Pu.qt (Pu.move rfl)) rfl ?_
    refine O.gq (t := 15) rfl rfl h2 rfl (Pu.qt (Pu.move rfl)) rfl ?_
    refine O.gq (t := 15) rfl rfl h2 rfl (Qt.lenM Try.runUnderlying55 rfl (Src.ro 1 rfl)) rfl ?_
    refine O.gq (t := 15) rfl rfl h2 rfl (Pu.qt (Pu.lss rfl rfl)) rfl ?_
    refine O.p (Pu.pickT rfl h2 rfl) rfl ?_
    refine O.nil ?_
    refine J.condT rfl h2 ?_
    refine J.skip ?_
    refine J.seq ?_
    refine J.block ?_
    refine J.seq ?_
    refine J.drawStill Try.mixed (by kernel_rfl) ?_
    refine S.p (Pu.move rfl) rfl ?_
    refine S.p (Pu.move rfl) rfl ?_
    obtain ⟨e4, he4⟩ : ∃ x_, l[k]? = some x_ := ⟨_, List.getElem?_eq_getElem (by first | omega | (simp only [List.length_append, List.length_cons, List.length_nil, List.length_set]; omega))⟩
    refine S.q (Qt.idxM Try.runUnderlying55 Try.sizeOf61 rfl (Src.ro 0 rfl) rfl (by first | omega | (simp only [List.length_append, List.length_cons, List.length_nil, List.length_set]; omega)) (by first | omega | (simp only [List.length_append, List.length_cons, List.length_nil, List.length_set]; omega))) rfl ?_
    refine S.q (Qt.ld rfl (Cel.eltM (Src.ro 0 rfl) he4) (o := (voff av + k * 8)) (off := 0) (by omega) (Cut.agg [.int .i64 e4.s, .int .i64 e4.id, .int .i64 e4.state, .int .i64 e4.level, .int .i64 e4.code, .int .i64 e4.came, .int .i64 e4.began, .int .i64 e4.ended] Try.isAgg61 Try.sizeOf61 rfl rfl)) rfl ?_
    refine S.p (Pu.move rfl) rfl ?_
    refine S.p (Pu.move rfl) rfl ?_
    refine S.q (Qt.idxM Try.runUnderlying55 Try.sizeOf61 rfl (Src.ro 1 rfl) rfl (by first | omega | (simp only [List.length_append, List.length_cons, List.length_nil, List.length_set]; omega)) (by first | omega | (simp only [List.length_append, List.length_cons, List.length_nil, List.length_set]; omega))) rfl ?_
    refine S.q (Qt.ld rfl (Cel.eltM (Src.ro 1 rfl) he4) (o := (voff bv + k * 8)) (off := 0) (by omega) (Cut.agg [.int .i64 e4.s, .int .i64 e4.id, .int .i64 e4.state, .int .i64 e4.level, .int .i64 e4.code, .int .i64 e4.came, .int .i64 e4.began, .int .i64 e4.ended] Try.isAgg61 Try.sizeOf61 rfl rfl)) rfl ?_
    refine S.p (Pu.neqI [e4.s, e4.id, e4.state, e4.level, e4.code, e4.came, e4.began, e4.ended] [e4.s, e4.id, e4.state, e4.level, e4.code, e4.came, e4.began, e4.ended] Try.underlying61 Try.stoodInHeld61 Try.eqGuardType61 (fint61 Try.underlying61) rfl rfl rfl rfl) rfl ?_
    refine S.endJ ?_
    refine J.condF rfl (not_of_true (by simp)) ?_
    refine J.skip ?_
    refine J.blk ?_
    refine J.region ?_
    refine O.p (Pu.move rfl) rfl ?_
    refine O.p (Pu.add' rfl rfl (by first | omega | (simp only [List.length_append, List.length_cons, List.length_nil, List.length_set]; omega))) rfl ?_
    refine O.p (Pu.assign rfl) rfl ?_
    refine O.nil ?_
    exact J.lp (k + 1) (show (k + 1) ≤ l.length from (by omega)) (show l.length - (k + 1) < l.length - k from (by first | omega | (simp only [List.length_append, List.length_cons, List.length_nil, List.length_set]; omega))) ⟨rfl, rfl, (congrArg (fun z => some (Value.int .i64 z)) (by first | rfl | omega : ((k : Int) + 1 : Int) = ((k + 1) : Int))), trivial⟩ [] (by decide) rfl
  ·
    have p5 := of_decide_eq_false h2
    refine O.gskip (t := 15) rfl rfl (no_bool (by rw [h2]; decide)) rfl rfl ?_
    refine O.gskip (t := 15) rfl rfl (no_bool (by rw [h2]; decide)) rfl rfl ?_
    refine O.gskip (t := 15) rfl rfl (no_bool (by rw [h2]; decide)) rfl rfl ?_
    refine O.gskip (t := 15) rfl rfl (no_bool (by rw [h2]; decide)) rfl rfl ?_
    refine O.p (Pu.pickF rfl h2 rfl) rfl ?_
    refine O.nil ?_
    refine J.condF rfl rfl ?_
    refine J.exit _ rfl ?_
    refine J.seq ?_
    refine J.region ?_
    refine O.p (Pu.assign rfl) rfl ?_
    refine O.nil ?_
    exact J.ret (Fin.ret (rs := [.tmp 4]) rfl [_] ⟨rfl, trivial⟩ [] (by decide) [] rfl ⟨rfl, rfl⟩)

set_option maxRecDepth 100000 in
theorem r01_Same (av bv : Value) (l : List Int) (hl : l.length ≤ 100000) : Tri Try.prog 35 #[av, bv] [rd av 1 (l.map encN), rd bv 1 (l.map encN)] [] (fun v L' => v = .bool true ∧ L' = []) := by
  refine Tri.enter (args := [av, bv]) (body := _) 32 Try.func35 rfl Try.ntmps35 rfl ?_
  intro w0
  refine J.seq ?_
  refine J.region ?_
  refine O.p (Pu.assign rfl) rfl ?_
  refine O.nil ?_
  refine J.seq ?_
  refine J.seq ?_
  refine J.region ?_
  refine O.p (Pu.move rfl) rfl ?_
  refine O.q (Qt.lenM Try.runUnderlying69 rfl (Src.ro 0 rfl)) rfl ?_
  refine O.p (Pu.move rfl) rfl ?_
  refine O.q (Qt.lenM Try.runUnderlying69 rfl (Src.ro 1 rfl)) rfl ?_
  refine O.p (Pu.neq rfl rfl) rfl ?_
  refine O.nil ?_
  refine J.condF rfl (by simp) ?_
  refine J.skip ?_
  refine J.seq ?_
  refine J.seq ?_
  refine J.region ?_
  refine O.p (Pu.assign rfl) rfl ?_
  refine O.nil ?_
  refine J.block ?_
  refine J.loop (X := Nat) (fun ξ => ξ ≤ l.length) (fun ξ => [(0, av), (1, bv), (5, .int .i64 (ξ : Int))]) (fun ξ => []) (fun ξ => l.length - ξ) 0 (show 0 ≤ l.length from (by omega)) ⟨rfl, rfl, (congrArg (fun z => some (Value.int .i64 z)) (by first | rfl | omega : (0 : Int) = (0 : Int))), trivial⟩ [] (by decide) rfl ?_
  rintro k hq1
  obtain hk : k ≤ l.length := hq1
  show J _ _ [(0, av), (1, bv), (5, .int .i64 (k : Int))] []
  refine J.seq ?_
  refine J.seq ?_
  refine J.region ?_
  refine O.p (Pu.move rfl) rfl ?_
  refine O.p (Pu.move rfl) rfl ?_
  refine O.q (Qt.lenM Try.runUnderlying69 rfl (Src.ro 0 rfl)) rfl ?_
  refine O.p (Pu.lss rfl rfl) rfl ?_
  refine O.p (Pu.move rfl) rfl ?_
  refine by_bool (decide ((k : Int) < (l.length : Int))) (fun h2 => ?_) (fun h2 => ?_)
  ·
    have p3 := of_decide_eq_true h2
    refine O.gq (t := 15) rfl rfl h2 rfl (Pu.qt (Pu.move rfl)) rfl ?_
    refine O.gq (t := 15) rfl rfl h2 rfl (Pu.qt (Pu.move rfl)) rfl ?_
    refine O.gq (t := 15) rfl rfl h2 rfl (Qt.lenM Try.runUnderlying69 rfl (Src.ro 1 rfl)) rfl ?_
    refine O.gq (t := 15) rfl rfl h2 rfl (Pu.qt (Pu.lss rfl rfl)) rfl ?_
    refine O.p (Pu.pickT rfl h2 rfl) rfl ?_
    refine O.nil ?_
    refine J.condT rfl h2 ?_
    refine J.skip ?_
    refine J.seq ?_
    refine J.block ?_
    refine J.seq ?_
    refine J.drawStill Try.mixed (by kernel_rfl) ?_
    refine S.p (Pu.move rfl) rfl ?_
    refine S.p (Pu.move rfl) rfl ?_
    obtain ⟨e4, he4⟩ : ∃ x_, l[k]? = some x_ := ⟨_, List.getElem?_eq_getElem (by first | omega | (simp only [List.length_append, List.length_cons, List.length_nil, List.length_set]; omega))⟩
    refine S.q (Qt.idxM Try.runUnderlying69 Try.sizeOf3 rfl (Src.ro 0 rfl) rfl (by first | omega | (simp only [List.length_append, List.length_cons, List.length_nil, List.length_set]; omega)) (by first | omega | (simp only [List.length_append, List.length_cons, List.length_nil, List.length_set]; omega))) rfl ?_
    refine S.q (Qt.ld rfl (Cel.eltM (Src.ro 0 rfl) he4) (o := (voff av + k * 1)) (off := 0) (by omega) (Cut.one Try.isAgg3 rfl)) rfl ?_
    refine S.p (Pu.move rfl) rfl ?_
    refine S.p (Pu.move rfl) rfl ?_
    refine S.q (Qt.idxM Try.runUnderlying69 Try.sizeOf3 rfl (Src.ro 1 rfl) rfl (by first | omega | (simp only [List.length_append, List.length_cons, List.length_nil, List.length_set]; omega)) (by first | omega | (simp only [List.length_append, List.length_cons, List.length_nil, List.length_set]; omega))) rfl ?_
    refine S.q (Qt.ld rfl (Cel.eltM (Src.ro 1 rfl) he4) (o := (voff bv + k * 1)) (off := 0) (by omega) (Cut.one Try.isAgg3 rfl)) rfl ?_
    refine S.p (Pu.neq rfl rfl) rfl ?_
    refine S.endJ ?_
    refine J.condF rfl (by simp) ?_
    refine J.skip ?_
    refine J.blk ?_
    refine J.region ?_
    refine O.p (Pu.move rfl) rfl ?_
    refine O.p (Pu.add' rfl rfl (by first | omega | (simp only [List.length_append, List.length_cons, List.length_nil, List.length_set]; omega))) rfl ?_
    refine O.p (Pu.assign rfl) rfl ?_
    refine O.nil ?_
    exact J.lp (k + 1) (show (k + 1) ≤ l.length from (by omega)) (show l.length - (k + 1) < l.length - k from (by first | omega | (simp only [List.length_append, List.length_cons, List.length_nil, List.length_set]; omega))) ⟨rfl, rfl, (congrArg (fun z => some (Value.int .i64 z)) (by first | rfl | omega : ((k : Int) + 1 : Int) = ((k + 1) : Int))), trivial⟩ [] (by decide) rfl
  ·
    have p5 := of_decide_eq_false h2
    refine O.gskip (t := 15) rfl rfl (no_bool (by rw [h2]; decide)) rfl rfl ?_
    refine O.gskip (t := 15) rfl rfl (no_bool (by rw [h2]; decide)) rfl rfl ?_
    refine O.gskip (t := 15) rfl rfl (no_bool (by rw [h2]; decide)) rfl rfl ?_
    refine O.gskip (t := 15) rfl rfl (no_bool (by rw [h2]; decide)) rfl rfl ?_
    refine O.p (Pu.pickF rfl h2 rfl) rfl ?_
    refine O.nil ?_
    refine J.condF rfl rfl ?_
    refine J.exit _ rfl ?_
    refine J.seq ?_
    refine J.region ?_
    refine O.p (Pu.assign rfl) rfl ?_
    refine O.nil ?_
    exact J.ret (Fin.ret (rs := [.tmp 4]) rfl [_] ⟨rfl, trivial⟩ [] (by decide) [] rfl ⟨rfl, rfl⟩)

set_option maxRecDepth 100000 in
theorem r41_Last (s id : Int) (fv : Value) (l : List Ft) (hl : l.length ≤ 100000) : Tri Try.prog 31 #[.int .i64 s, .int .i64 id, fv] [rd fv 8 (l.map Ft.cells)] [] (fun v L' => v = .tuple #[.agg #[.int .i64 (((Ld.last l s id).1).s), .int .i64 (((Ld.last l s id).1).id), .int .i64 (((Ld.last l s id).1).state), .int .i64 (((Ld.last l s id).1).level), .int .i64 (((Ld.last l s id).1).code), .int .i64 (((Ld.last l s id).1).came), .int .i64 (((Ld.last l s id).1).began), .int .i64 (((Ld.last l s id).1).ended)], .bool (Ld.last l s id).2] ∧ L' = []) := by
  refine Tri.enter (args := [.int .i64 s, .int .i64 id, fv]) (body := _) 20 Try.func31 rfl Try.ntmps31 rfl ?_
  intro w0
  refine J.seq ?_
  refine J.region ?_
  refine O.l (Lo.alloc [.int .i64 0, .int .i64 0, .int .i64 0, .int .i64 0, .int .i64 0, .int .i64 0, .int .i64 0, .int .i64 0] (by exact Try.zeroValue61) rfl) rfl ?_
  rintro _ _ ⟨g1, rfl, rfl⟩
  refine O.p (Pu.assign rfl) rfl ?_
  refine O.nil ?_
  refine J.seq ?_
  refine J.region ?_
  refine O.p (Pu.move rfl) rfl ?_
  refine O.p (Pu.move rfl) rfl ?_
  refine O.p (Pu.move rfl) rfl ?_
  refine O.l (Lo.call [fv, .int .i64 s, .int .i64 id] (by exact Try.call72) rfl (r41_last fv l s id (by omega)) [] [0] (by decide) rfl _ rfl (RoOk.ro 0 rfl [] rfl RoOk.nil)) rfl ?_
  rintro _ _ ⟨_, ⟨rfl, rfl⟩, rfl⟩
  refine O.p (Pu.assign rfl) rfl ?_
  refine O.nil ?_
  refine J.seq ?_
  refine J.seq ?_
  refine J.region ?_
  refine O.p (Pu.move rfl) rfl ?_
  refine O.p (Pu.lss rfl rfl) rfl ?_
  refine O.nil ?_
  refine J.cond rfl (fun h3 => ?_) (fun h3 => ?_)
  ·
    have p4 := of_decide_eq_true h3
    refine J.seq ?_
    refine J.region ?_
    refine O.p (Pu.build [] [.int .i64 0, .int .i64 0, .int .i64 0, .int .i64 0, .int .i64 0, .int .i64 0, .int .i64 0, .int .i64 0] #[(0, 1), (1, 1), (2, 1), (3, 1), (4, 1), (5, 1), (6, 1), (7, 1)] Try.runUnderlying61 Try.zeroValue61 (places61 Try.underlying61) rfl (by kernel_rfl)) rfl ?_
    refine O.l0 (Lo.store 0 (vs := [.int .i64 0, .int .i64 0, .int .i64 0, .int .i64 0, .int .i64 0, .int .i64 0, .int .i64 0, .int .i64 0]) [.int .i64 0, .int .i64 0, .int .i64 0, .int .i64 0, .int .i64 0, .int .i64 0, .int .i64 0, .int .i64 0] rfl rfl rfl (by exact Try.sizeOf61) rfl rfl rfl rfl rfl) ?_
    rintro _ _ rfl
    refine O.p (Pu.assign rfl) rfl ?_
    refine O.nil ?_
    exact J.ret (Fin.ret (rs := [.cell 6 61, .tmp 7]) rfl [_, _] ⟨⟨_, _, 0, 0, _, rfl, (Cel.var 0 rfl), rfl, (Cut.agg [.int .i64 0, .int .i64 0, .int .i64 0, .int .i64 0, .int .i64 0, .int .i64 0, .int .i64 0, .int .i64 0] Try.isAgg61 Try.sizeOf61 rfl rfl)⟩, rfl, trivial⟩ [] (by decide) [] rfl ⟨(by rw [Ld.last_none (by omega)]; rfl), rfl⟩)
  ·
    have p5 := of_decide_eq_false h3
    refine J.skip ?_
    refine J.seq ?_
    refine J.region ?_
    refine O.p (Pu.move rfl) rfl ?_
    refine O.p (Pu.move rfl) rfl ?_
    obtain ⟨e6, he6⟩ : ∃ x_, l[(Ld.lastZ l s id).toNat]? = some x_ := ⟨_, List.getElem?_eq_getElem (by first | omega | exact (Ld.lastZ_lt (Int.not_lt.1 (by assumption))).1 | exact (Ld.lastZ_lt (Int.not_lt.1 (by assumption))).2.1)⟩
    refine O.q (Qt.idxM Try.runUnderlying55 Try.sizeOf61 rfl (Src.ro 0 rfl) rfl (by first | omega | exact (Ld.lastZ_lt (Int.not_lt.1 (by assumption))).1 | exact (Ld.lastZ_lt (Int.not_lt.1 (by assumption))).2.1) (by first | omega | exact (Ld.lastZ_lt (Int.not_lt.1 (by assumption))).1 | exact (Ld.lastZ_lt (Int.not_lt.1 (by assumption))).2.1)) rfl ?_
    refine O.q (Qt.ld rfl (Cel.eltM (Src.ro 0 rfl) he6) (o := (voff fv + ((Ld.lastZ l s id).toNat) * 8)) (off := 0) (by omega) (Cut.agg [.int .i64 e6.s, .int .i64 e6.id, .int .i64 e6.state, .int .i64 e6.level, .int .i64 e6.code, .int .i64 e6.came, .int .i64 e6.began, .int .i64 e6.ended] Try.isAgg61 Try.sizeOf61 rfl rfl)) rfl ?_
    refine O.l0 (Lo.store 0 (vs := [.int .i64 e6.s, .int .i64 e6.id, .int .i64 e6.state, .int .i64 e6.level, .int .i64 e6.code, .int .i64 e6.came, .int .i64 e6.began, .int .i64 e6.ended]) [.int .i64 e6.s, .int .i64 e6.id, .int .i64 e6.state, .int .i64 e6.level, .int .i64 e6.code, .int .i64 e6.came, .int .i64 e6.began, .int .i64 e6.ended] rfl rfl rfl (by exact Try.sizeOf61) rfl rfl rfl rfl rfl) ?_
    rintro _ _ rfl
    refine O.p (Pu.assign rfl) rfl ?_
    refine O.nil ?_
    exact J.ret (Fin.ret (rs := [.cell 6 61, .tmp 7]) rfl [_, _] ⟨⟨_, _, 0, 0, _, rfl, (Cel.var 0 rfl), rfl, (Cut.agg [.int .i64 e6.s, .int .i64 e6.id, .int .i64 e6.state, .int .i64 e6.level, .int .i64 e6.code, .int .i64 e6.came, .int .i64 e6.began, .int .i64 e6.ended] Try.isAgg61 Try.sizeOf61 rfl rfl)⟩, rfl, trivial⟩ [] (by decide) [] rfl ⟨(by rw [Ld.last_some (by omega) (by assumption)]; rfl), rfl⟩)

end Go.Proofs.Ytghhjhjpccipaaa
