/-
  Walks, printed by a program of mine (lk.py): each function meets its contract.
-/
import Derived.KernelRfl
import Derived.Test.YtghhjhjpccipaaaDW2
namespace Go.Proofs.Ytghhjhjpccipaaa
open Go Go.LK
set_option linter.unusedSimpArgs false

set_option maxRecDepth 100000 in
theorem dw_over_moves (gw : Nat) (go : Nat) (w0_ : Wd) (s lv ti : Int) (ev_ : Value) (l : List Ev) (hl : l.length ≤ 100000) : Tri Try.prog 62 #[.pointer (some ⟨gw, 0, none⟩), .int .i64 s, .int .i64 lv, .int .i64 ti, ev_] [rd ev_ 7 (l.map Ev.cells)] [var gw [.int .i64 w0_.no, .int .i64 w0_.th, .int .i64 w0_.ti, .func (.func 66) #[] #[.pointer (some ⟨go, 0, none⟩)], .func (.func 67) #[] #[]] 110, var go [Value.slice none 0 0] 49, row (Value.slice none 0 0) 44 3 (([] : List Mv).map Mv.cells)] (fun v L' => v = .tuple #[] ∧ ∃ V', L' = [var go [V'] 49, row V' 44 3 ((Dw.moves s lv ti l).map Mv.cells)]) := by
  refine Tri.enter (args := [.pointer (some ⟨gw, 0, none⟩), .int .i64 s, .int .i64 lv, .int .i64 ti, ev_]) (body := _) 81 Try.func62 rfl Try.ntmps62 rfl ?_
  intro w0
  refine J.seq ?_
  refine J.region ?_
  refine O.p (Pu.move rfl) rfl ?_
  refine O.p (Pu.move rfl) rfl ?_
  refine O.p (Pu.move rfl) rfl ?_
  refine O.p (Pu.build [(0, .int .i64 0), (1, .int .i64 lv), (2, .int .i64 ti)] [.int .i64 0, .int .i64 lv, .int .i64 ti] #[(0, 1), (1, 1), (2, 1)] Try.runUnderlying104 Try.zeroValue104 (places104 Try.underlying104) rfl (by kernel_rfl)) rfl ?_
  refine O.p (Pu.nilCheck rfl) rfl ?_
  refine O.p (Pu.fieldAddr (off' := 0) Try.runUnderlying110 rfl Try.sizeOf104 rfl rfl rfl) rfl ?_
  refine O.l0 (Lo.store 0 (vs := [.int .i64 0, .int .i64 lv, .int .i64 ti]) [.int .i64 0, .int .i64 lv, .int .i64 ti, .func (.func 66) #[] #[.pointer (some ⟨go, 0, none⟩)], .func (.func 67) #[] #[]] rfl rfl rfl (by exact Try.sizeOf104) rfl rfl rfl rfl rfl) ?_
  rintro _ _ rfl
  refine O.nil ?_
  refine J.seq ?_
  refine J.region ?_
  refine O.p (Pu.move rfl) rfl ?_
  refine O.q (Qt.lenM Try.runUnderlying22 rfl (Src.ro 0 rfl)) rfl ?_
  refine O.p (Pu.move rfl) rfl ?_
  refine O.nil ?_
  refine J.block ?_
  refine J.loop (X := Nat × Wd × Value × List Mv) (fun ξ => ξ.1 ≤ l.length ∧ ((ξ.2.1, ξ.2.2.2) : Wd × List Mv) = upI (Dw.overF s lv ti Dw.mvC (fun o_ => o_)) (⟨0, lv, ti⟩, []) l ξ.1 ∧ 0 ≤ ξ.2.1.no ∧ ξ.2.1.no ≤ ξ.1 ∧ ξ.2.2.2.length ≤ ξ.1) (fun ξ => [(0, .pointer (some ⟨gw, 0, none⟩)), (1, .int .i64 s), (2, .int .i64 lv), (3, .int .i64 ti), (19, ev_), (20, .int .i64 (l.length : Int)), (21, .int .i64 (ξ.1 : Int))]) (fun ξ => [var gw [.int .i64 ξ.2.1.no, .int .i64 ξ.2.1.th, .int .i64 ξ.2.1.ti, .func (.func 66) #[] #[.pointer (some ⟨go, 0, none⟩)], .func (.func 67) #[] #[]] 110, var go [ξ.2.2.1] 49, row ξ.2.2.1 44 3 (ξ.2.2.2.map Mv.cells)]) (fun ξ => l.length - ξ.1) ⟨0, (⟨0, lv, ti⟩ : Wd), Value.slice none 0 0, []⟩ (show 0 ≤ l.length ∧ (((⟨0, lv, ti⟩ : Wd), ([])) : Wd × List Mv) = upI (Dw.overF s lv ti Dw.mvC (fun o_ => o_)) (⟨0, lv, ti⟩, []) l 0 ∧ 0 ≤ (⟨0, lv, ti⟩ : Wd).no ∧ (⟨0, lv, ti⟩ : Wd).no ≤ 0 ∧ ([]).length ≤ 0 from ⟨by omega, rfl, by simp, by simp, by simp⟩) ⟨rfl, rfl, rfl, rfl, rfl, rfl, (congrArg (fun z => some (Value.int .i64 z)) (by first | rfl | omega : (0 : Int) = (0 : Int))), trivial⟩ [0, 1, 2] (by decide) rfl ?_
  rintro ⟨k, wd, V, out⟩ hq1
  obtain ⟨hk, hst, hn0, hn1, hlen⟩ : k ≤ l.length ∧ ((wd, out) : Wd × List Mv) = upI (Dw.overF s lv ti Dw.mvC (fun o_ => o_)) (⟨0, lv, ti⟩, []) l k ∧ 0 ≤ wd.no ∧ wd.no ≤ k ∧ out.length ≤ k := hq1
  show J _ _ [(0, .pointer (some ⟨gw, 0, none⟩)), (1, .int .i64 s), (2, .int .i64 lv), (3, .int .i64 ti), (19, ev_), (20, .int .i64 (l.length : Int)), (21, .int .i64 (k : Int))] [var gw [.int .i64 wd.no, .int .i64 wd.th, .int .i64 wd.ti, .func (.func 66) #[] #[.pointer (some ⟨go, 0, none⟩)], .func (.func 67) #[] #[]] 110, var go [V] 49, row V 44 3 (out.map Mv.cells)]
  refine J.seq ?_
  refine J.region ?_
  refine O.p (Pu.lss rfl rfl) rfl ?_
  refine O.nil ?_
  refine J.seq ?_
  refine J.cond rfl (fun h2 => ?_) (fun h2 => ?_)
  ·
    have p3 := of_decide_eq_true h2
    refine J.skip ?_
    refine J.seq ?_
    refine J.block ?_
    refine J.seq ?_
    refine J.region ?_
    refine O.p (Pu.move rfl) rfl ?_
    obtain ⟨e4, he4⟩ : ∃ e, l[k]? = some e := ⟨_, List.getElem?_eq_getElem (by first | omega | (simp only [List.length_append, List.length_cons, List.length_nil, List.length_set]; omega))⟩
    refine O.q (Qt.idxM Try.runUnderlying22 Try.sizeOf93 rfl (Src.ro 0 rfl) rfl (by first | omega | (simp only [List.length_append, List.length_cons, List.length_nil, List.length_set]; omega)) (by first | omega | (simp only [List.length_append, List.length_cons, List.length_nil, List.length_set]; omega))) rfl ?_
    refine O.q (Qt.ld rfl (Cel.eltM (Src.ro 0 rfl) he4) (o := (voff ev_ + k * 7)) (off := 0) (by omega) (Cut.agg [.int .i64 e4.kind, .int .i64 e4.tick, .int .i64 e4.s, .int .i64 e4.id, .int .i64 e4.code, .int .i64 e4.a, .int .i64 e4.b] Try.isAgg93 Try.sizeOf93 rfl rfl)) rfl ?_
    refine O.l (Lo.alloc [.int .i64 0, .int .i64 0, .int .i64 0, .int .i64 0, .int .i64 0, .int .i64 0, .int .i64 0] (by exact Try.zeroValue93) rfl) rfl ?_
    rintro _ _ ⟨g5, rfl, rfl⟩
    refine O.p (Pu.assign rfl) rfl ?_
    refine O.l0 (Lo.store 0 (vs := [.int .i64 e4.kind, .int .i64 e4.tick, .int .i64 e4.s, .int .i64 e4.id, .int .i64 e4.code, .int .i64 e4.a, .int .i64 e4.b]) [.int .i64 e4.kind, .int .i64 e4.tick, .int .i64 e4.s, .int .i64 e4.id, .int .i64 e4.code, .int .i64 e4.a, .int .i64 e4.b] rfl rfl rfl (by exact Try.sizeOf93) rfl rfl rfl rfl rfl) ?_
    rintro _ _ rfl
    refine O.nil ?_
    refine J.block ?_
    refine J.seq ?_
    refine J.region ?_
    refine O.p (Pu.fieldAddr (off' := 2) Try.runUnderlying93 rfl Try.sizeOf3 rfl rfl rfl) rfl ?_
    refine O.q (Qt.ld rfl (Cel.var 0 rfl) (o := 0) (off := 2) rfl (Cut.one Try.isAgg3 rfl)) rfl ?_
    refine O.p (Pu.move rfl) rfl ?_
    refine O.p (Pu.neq rfl rfl) rfl ?_
    refine O.p (Pu.assign rfl) rfl ?_
    refine O.nil ?_
    refine J.cond rfl (fun h6 => ?_) (fun h6 => ?_)
    ·
      have p7 := of_decide_eq_true h6
      refine J.skip ?_
      refine J.blk ?_
      refine J.blk ?_
      refine J.region ?_
      refine O.p (Pu.add' rfl rfl (by first | omega | (simp only [List.length_append, List.length_cons, List.length_nil, List.length_set]; omega))) rfl ?_
      refine O.p (Pu.move rfl) rfl ?_
      refine O.nil ?_
      exact J.lp ⟨k + 1, wd, V, out⟩ (show (k + 1) ≤ l.length ∧ ((wd, out) : Wd × List Mv) = upI (Dw.overF s lv ti Dw.mvC (fun o_ => o_)) (⟨0, lv, ti⟩, []) l (k + 1) ∧ 0 ≤ wd.no ∧ wd.no ≤ (k + 1) ∧ out.length ≤ (k + 1) from ⟨by omega, (by rw [upI_succ (by assumption), ← hst]; simp [Dw.overF, *]), by first | omega | (simp only []; omega), by first | omega | (simp only []; omega), by first | omega | exact Nat.le_trans Dw.mvC_len (by omega)⟩) (show l.length - (k + 1) < l.length - k from (by first | omega | (simp only [List.length_append, List.length_cons, List.length_nil, List.length_set]; omega))) ⟨rfl, rfl, rfl, rfl, rfl, rfl, (congrArg (fun z => some (Value.int .i64 z)) (by first | rfl | omega : ((k : Int) + 1 : Int) = ((k + 1) : Int))), trivial⟩ [1, 2, 3] (by decide) rfl
    ·
      have p8 := of_decide_eq_false h6
      refine J.seq ?_
      refine J.region ?_
      refine O.p (Pu.fieldAddr (off' := 0) Try.runUnderlying93 rfl Try.sizeOf3 rfl rfl rfl) rfl ?_
      refine O.q (Qt.ld rfl (Cel.var 0 rfl) (o := 0) (off := 0) rfl (Cut.one Try.isAgg3 rfl)) rfl ?_
      refine O.p (Pu.eql rfl rfl) rfl ?_
      refine O.p (Pu.assign rfl) rfl ?_
      refine O.nil ?_
      refine J.cond rfl (fun h9 => ?_) (fun h9 => ?_)
      ·
        have p10 := of_decide_eq_true h9
        refine J.seq ?_
        refine J.region ?_
        refine O.p (Pu.move rfl) rfl ?_
        refine O.p (Pu.move rfl) rfl ?_
        refine O.p (Pu.move rfl) rfl ?_
        refine O.p (Pu.move rfl) rfl ?_
        refine O.p (Pu.nilCheck rfl) rfl ?_
        refine O.p (Pu.fieldAddr (off' := 0) Try.runUnderlying110 rfl Try.sizeOf104 rfl rfl rfl) rfl ?_
        refine O.p (Pu.fieldAddr (off' := 1) Try.runUnderlying104 rfl Try.sizeOf3 rfl rfl rfl) rfl ?_
        refine O.l0 (Lo.store 1 (vs := [.int .i64 lv]) [.int .i64 wd.no, .int .i64 lv, .int .i64 wd.ti, .func (.func 66) #[] #[.pointer (some ⟨go, 0, none⟩)], .func (.func 67) #[] #[]] rfl rfl rfl (by exact Try.sizeOf3) rfl rfl rfl rfl rfl) ?_
        rintro _ _ rfl
        refine O.p (Pu.nilCheck rfl) rfl ?_
        refine O.p (Pu.fieldAddr (off' := 0) Try.runUnderlying110 rfl Try.sizeOf104 rfl rfl rfl) rfl ?_
        refine O.p (Pu.fieldAddr (off' := 2) Try.runUnderlying104 rfl Try.sizeOf3 rfl rfl rfl) rfl ?_
        refine O.l0 (Lo.store 1 (vs := [.int .i64 ti]) [.int .i64 wd.no, .int .i64 lv, .int .i64 ti, .func (.func 66) #[] #[.pointer (some ⟨go, 0, none⟩)], .func (.func 67) #[] #[]] rfl rfl rfl (by exact Try.sizeOf3) rfl rfl rfl rfl rfl) ?_
        rintro _ _ rfl
        refine O.nil ?_
        refine J.region ?_
        refine O.p (Pu.move rfl) rfl ?_
        refine O.p (Pu.nilCheck rfl) rfl ?_
        refine O.p (Pu.fieldAddr (off' := 4) Try.runUnderlying110 rfl Try.sizeOf1 rfl rfl rfl) rfl ?_
        refine O.q (Qt.ld rfl (Cel.var 1 rfl) (o := 0) (off := 4) rfl (Cut.one Try.isAgg1 rfl)) rfl ?_
        refine O.l (Lo.callV (vs := []) (caps := []) (by exact Try.call67) rfl rfl dw_moves2 [] [0, 1, 2, 3] (by decide) rfl _ rfl RoOk.nil) rfl ?_
        rintro _ _ ⟨_, ⟨rfl, rfl⟩, rfl⟩
        refine O.nil ?_
        refine J.blk ?_
        refine J.blk ?_
        refine J.region ?_
        refine O.p (Pu.add' rfl rfl (by first | omega | (simp only [List.length_append, List.length_cons, List.length_nil, List.length_set]; omega))) rfl ?_
        refine O.p (Pu.move rfl) rfl ?_
        refine O.nil ?_
        exact J.lp ⟨k + 1, (⟨wd.no, lv, ti⟩ : Wd), V, out⟩ (show (k + 1) ≤ l.length ∧ (((⟨wd.no, lv, ti⟩ : Wd), out) : Wd × List Mv) = upI (Dw.overF s lv ti Dw.mvC (fun o_ => o_)) (⟨0, lv, ti⟩, []) l (k + 1) ∧ 0 ≤ (⟨wd.no, lv, ti⟩ : Wd).no ∧ (⟨wd.no, lv, ti⟩ : Wd).no ≤ (k + 1) ∧ out.length ≤ (k + 1) from ⟨by omega, (by rw [upI_succ (by assumption), ← hst]; simp [Dw.overF, *]), by first | omega | (simp only []; omega), by first | omega | (simp only []; omega), by first | omega | exact Nat.le_trans Dw.mvC_len (by omega)⟩) (show l.length - (k + 1) < l.length - k from (by first | omega | (simp only [List.length_append, List.length_cons, List.length_nil, List.length_set]; omega))) ⟨rfl, rfl, rfl, rfl, rfl, rfl, (congrArg (fun z => some (Value.int .i64 z)) (by first | rfl | omega : ((k : Int) + 1 : Int) = ((k + 1) : Int))), trivial⟩ [1, 2, 3] (by decide) rfl
      ·
        have p12 := of_decide_eq_false h9
        refine J.seq ?_
        refine J.region ?_
        refine O.p (Pu.fieldAddr (off' := 0) Try.runUnderlying93 rfl Try.sizeOf3 rfl rfl rfl) rfl ?_
        refine O.q (Qt.ld rfl (Cel.var 0 rfl) (o := 0) (off := 0) rfl (Cut.one Try.isAgg3 rfl)) rfl ?_
        refine O.p (Pu.eql rfl rfl) rfl ?_
        refine O.p (Pu.assign rfl) rfl ?_
        refine O.nil ?_
        refine J.cond rfl (fun h13 => ?_) (fun h13 => ?_)
        ·
          have p14 := of_decide_eq_true h13
          refine J.seq ?_
          refine J.region ?_
          refine O.p (Pu.move rfl) rfl ?_
          refine O.p (Pu.nilCheck rfl) rfl ?_
          refine O.p (Pu.fieldAddr (off' := 0) Try.runUnderlying110 rfl Try.sizeOf104 rfl rfl rfl) rfl ?_
          refine O.q (Qt.ld rfl (Cel.var 1 rfl) (o := 0) (off := 0) rfl (Cut.agg [.int .i64 wd.no, .int .i64 wd.th, .int .i64 wd.ti] Try.isAgg104 Try.sizeOf104 rfl rfl)) rfl ?_
          refine O.l (Lo.alloc [.int .i64 0, .int .i64 0, .int .i64 0] (by exact Try.zeroValue104) rfl) rfl ?_
          rintro _ _ ⟨g15, rfl, rfl⟩
          refine O.l0 (Lo.store 0 (vs := [.int .i64 wd.no, .int .i64 wd.th, .int .i64 wd.ti]) [.int .i64 wd.no, .int .i64 wd.th, .int .i64 wd.ti] rfl rfl rfl (by exact Try.sizeOf104) rfl rfl rfl rfl rfl) ?_
          rintro _ _ rfl
          refine O.nil ?_
          refine J.seq ?_
          refine J.region ?_
          refine O.p (Pu.move rfl) rfl ?_
          refine O.p (Pu.fieldAddr (off' := 0) Try.runUnderlying104 rfl Try.sizeOf3 rfl rfl rfl) rfl ?_
          refine O.q (Qt.ld rfl (Cel.var 0 rfl) (o := 0) (off := 0) rfl (Cut.one Try.isAgg3 rfl)) rfl ?_
          refine O.p (Pu.add' rfl rfl (by first | omega | (simp only [List.length_append, List.length_cons, List.length_nil, List.length_set]; omega))) rfl ?_
          refine O.p (Pu.fieldAddr (off' := 5) Try.runUnderlying93 rfl Try.sizeOf3 rfl rfl rfl) rfl ?_
          refine O.q (Qt.ld rfl (Cel.var 1 rfl) (o := 0) (off := 5) rfl (Cut.one Try.isAgg3 rfl)) rfl ?_
          refine O.p (Pu.fieldAddr (off' := 6) Try.runUnderlying93 rfl Try.sizeOf3 rfl rfl rfl) rfl ?_
          refine O.q (Qt.ld rfl (Cel.var 1 rfl) (o := 0) (off := 6) rfl (Cut.one Try.isAgg3 rfl)) rfl ?_
          refine O.p (Pu.build [(0, .int .i64 (wd.no + 1)), (1, .int .i64 e4.a), (2, .int .i64 e4.b)] [.int .i64 (wd.no + 1), .int .i64 e4.a, .int .i64 e4.b] #[(0, 1), (1, 1), (2, 1)] Try.runUnderlying104 Try.zeroValue104 (places104 Try.underlying104) rfl (by kernel_rfl)) rfl ?_
          refine O.p (Pu.nilCheck rfl) rfl ?_
          refine O.p (Pu.fieldAddr (off' := 0) Try.runUnderlying110 rfl Try.sizeOf104 rfl rfl rfl) rfl ?_
          refine O.l0 (Lo.store 2 (vs := [.int .i64 (wd.no + 1), .int .i64 e4.a, .int .i64 e4.b]) [.int .i64 (wd.no + 1), .int .i64 e4.a, .int .i64 e4.b, .func (.func 66) #[] #[.pointer (some ⟨go, 0, none⟩)], .func (.func 67) #[] #[]] rfl rfl rfl (by exact Try.sizeOf104) rfl rfl rfl rfl rfl) ?_
          rintro _ _ rfl
          refine O.nil ?_
          refine J.drawTail 10 Try.mixed (by kernel_rfl) ?_
          refine S.p (Pu.move rfl) rfl ?_
          refine S.p (Pu.nilCheck rfl) rfl ?_
          refine S.p (Pu.fieldAddr (off' := 3) Try.runUnderlying110 rfl Try.sizeOf108 rfl rfl rfl) rfl ?_
          refine S.q (Qt.ld rfl (Cel.var 2 rfl) (o := 0) (off := 3) rfl (Cut.one Try.isAgg108 rfl)) rfl ?_
          refine S.p (Pu.move rfl) rfl ?_
          refine S.q (Qt.ld rfl (Cel.var 0 rfl) (o := 0) (off := 0) rfl (Cut.agg [.int .i64 wd.no, .int .i64 wd.th, .int .i64 wd.ti] Try.isAgg104 Try.sizeOf104 rfl rfl)) rfl ?_
          refine S.p (Pu.move rfl) rfl ?_
          refine S.p (Pu.nilCheck rfl) rfl ?_
          refine S.p (Pu.fieldAddr (off' := 0) Try.runUnderlying110 rfl Try.sizeOf104 rfl rfl rfl) rfl ?_
          refine S.q (Qt.ld rfl (Cel.var 2 rfl) (o := 0) (off := 0) rfl (Cut.agg [.int .i64 (wd.no + 1), .int .i64 e4.a, .int .i64 e4.b] Try.isAgg104 Try.sizeOf104 rfl rfl)) rfl ?_
          refine S.endO ?_
          refine O.l (Lo.callV (vs := [.int .i64 (k : Int), .agg #[.int .i64 wd.no, .int .i64 wd.th, .int .i64 wd.ti], .agg #[.int .i64 (wd.no + 1), .int .i64 e4.a, .int .i64 e4.b]]) (caps := [.pointer (some ⟨go, 0, none⟩)]) (by exact Try.call66) rfl rfl (dw_moves1 (k : Int) wd (⟨wd.no + 1, e4.a, e4.b⟩ : Wd) go V out (by omega)) [3, 4] [0, 1, 2] (by decide) rfl _ rfl RoOk.nil) rfl ?_
          rintro _ _ ⟨_, ⟨rfl, V16, rfl⟩, rfl⟩
          refine O.nil ?_
          refine J.blk ?_
          refine J.blk ?_
          refine J.region ?_
          refine O.p (Pu.add' rfl rfl (by first | omega | (simp only [List.length_append, List.length_cons, List.length_nil, List.length_set]; omega))) rfl ?_
          refine O.p (Pu.move rfl) rfl ?_
          refine O.nil ?_
          exact J.lp ⟨k + 1, (⟨wd.no + 1, e4.a, e4.b⟩ : Wd), V16, Dw.mvC out (k : Int) wd (⟨wd.no + 1, e4.a, e4.b⟩ : Wd)⟩ (show (k + 1) ≤ l.length ∧ (((⟨wd.no + 1, e4.a, e4.b⟩ : Wd), (Dw.mvC out (k : Int) wd (⟨wd.no + 1, e4.a, e4.b⟩ : Wd))) : Wd × List Mv) = upI (Dw.overF s lv ti Dw.mvC (fun o_ => o_)) (⟨0, lv, ti⟩, []) l (k + 1) ∧ 0 ≤ (⟨wd.no + 1, e4.a, e4.b⟩ : Wd).no ∧ (⟨wd.no + 1, e4.a, e4.b⟩ : Wd).no ≤ (k + 1) ∧ (Dw.mvC out (k : Int) wd (⟨wd.no + 1, e4.a, e4.b⟩ : Wd)).length ≤ (k + 1) from ⟨by omega, (by rw [upI_succ (by assumption), ← hst]; simp [Dw.overF, *]), by first | omega | (simp only []; omega), by first | omega | (simp only []; omega), by first | omega | exact Nat.le_trans Dw.mvC_len (by omega)⟩) (show l.length - (k + 1) < l.length - k from (by first | omega | (simp only [List.length_append, List.length_cons, List.length_nil, List.length_set]; omega))) ⟨rfl, rfl, rfl, rfl, rfl, rfl, (congrArg (fun z => some (Value.int .i64 z)) (by first | rfl | omega : ((k : Int) + 1 : Int) = ((k + 1) : Int))), trivial⟩ [4, 0, 1] (by decide) rfl
        ·
          have p18 := of_decide_eq_false h13
          refine J.skip ?_
          refine J.blk ?_
          refine J.blk ?_
          refine J.region ?_
          refine O.p (Pu.add' rfl rfl (by first | omega | (simp only [List.length_append, List.length_cons, List.length_nil, List.length_set]; omega))) rfl ?_
          refine O.p (Pu.move rfl) rfl ?_
          refine O.nil ?_
          exact J.lp ⟨k + 1, wd, V, out⟩ (show (k + 1) ≤ l.length ∧ ((wd, out) : Wd × List Mv) = upI (Dw.overF s lv ti Dw.mvC (fun o_ => o_)) (⟨0, lv, ti⟩, []) l (k + 1) ∧ 0 ≤ wd.no ∧ wd.no ≤ (k + 1) ∧ out.length ≤ (k + 1) from ⟨by omega, (by rw [upI_succ (by assumption), ← hst]; simp [Dw.overF, *]), by first | omega | (simp only []; omega), by first | omega | (simp only []; omega), by first | omega | exact Nat.le_trans Dw.mvC_len (by omega)⟩) (show l.length - (k + 1) < l.length - k from (by first | omega | (simp only [List.length_append, List.length_cons, List.length_nil, List.length_set]; omega))) ⟨rfl, rfl, rfl, rfl, rfl, rfl, (congrArg (fun z => some (Value.int .i64 z)) (by first | rfl | omega : ((k : Int) + 1 : Int) = ((k + 1) : Int))), trivial⟩ [1, 2, 3] (by decide) rfl
  ·
    have p19 := of_decide_eq_false h2
    refine J.exit _ rfl ?_
    exact J.done (Fin.ret (rs := []) rfl [] trivial [1, 2] (by decide) [var go [V] 49, row V 44 3 (out.map Mv.cells)] rfl ⟨rfl, V, congrArg (fun (o : List Mv) => ([var go [V] 49, row V 44 3 (o.map Mv.cells)] : List Sp)) (show out = Dw.moves s lv ti l from (by have hk2 : k = l.length := (by omega); rw [Dw.moves, Dw.over, ← hk2, ← hst]))⟩)

set_option maxRecDepth 100000 in
theorem dw_over_wrong (gw : Nat) (gf gh gx gm : Nat) (x : Kn) (w0_ : Wd) (s lv ti : Int) (ev_ : Value) (l : List Ev) (hl : l.length ≤ 100000) : Tri Try.prog 62 #[.pointer (some ⟨gw, 0, none⟩), .int .i64 s, .int .i64 lv, .int .i64 ti, ev_] [rd ev_ 7 (l.map Ev.cells)] [var gw [.int .i64 w0_.no, .int .i64 w0_.th, .int .i64 w0_.ti, .func (.func 57) #[] #[.pointer (some ⟨gf, 0, none⟩), .pointer (some ⟨gh, 0, none⟩), .pointer (some ⟨gx, 0, none⟩), .pointer (some ⟨gm, 0, none⟩)], .func (.func 61) #[] #[.pointer (some ⟨gh, 0, none⟩)]] 110, var gf [.bool false] 4, var gh [.int .i64 Dw.kp0.way, .int .i64 Dw.kp0.frm, .int .i64 Dw.kp0.dim, .int .i64 Dw.kp0.at_] 101, var gx [.int .i64 x.low, .int .i64 x.high, .int .i64 x.cut, .int .i64 x.lift, .int .i64 x.floor, .int .i64 x.turn, .int .i64 x.dwell] 42, var gm [.int .i64 Dw.mv0.at_, .int .i64 Dw.mv0.way, .int .i64 Dw.mv0.tier] 44] (fun v L' => v = .tuple #[] ∧ L' = [var gf [.bool ((Dw.ws s lv ti x l).found)] 4, var gm [.int .i64 (((Dw.ws s lv ti x l).fst).at_), .int .i64 (((Dw.ws s lv ti x l).fst).way), .int .i64 (((Dw.ws s lv ti x l).fst).tier)] 44]) := by
  refine Tri.enter (args := [.pointer (some ⟨gw, 0, none⟩), .int .i64 s, .int .i64 lv, .int .i64 ti, ev_]) (body := _) 81 Try.func62 rfl Try.ntmps62 rfl ?_
  intro w0
  refine J.seq ?_
  refine J.region ?_
  refine O.p (Pu.move rfl) rfl ?_
  refine O.p (Pu.move rfl) rfl ?_
  refine O.p (Pu.move rfl) rfl ?_
  refine O.p (Pu.build [(0, .int .i64 0), (1, .int .i64 lv), (2, .int .i64 ti)] [.int .i64 0, .int .i64 lv, .int .i64 ti] #[(0, 1), (1, 1), (2, 1)] Try.runUnderlying104 Try.zeroValue104 (places104 Try.underlying104) rfl (by kernel_rfl)) rfl ?_
  refine O.p (Pu.nilCheck rfl) rfl ?_
  refine O.p (Pu.fieldAddr (off' := 0) Try.runUnderlying110 rfl Try.sizeOf104 rfl rfl rfl) rfl ?_
  refine O.l0 (Lo.store 0 (vs := [.int .i64 0, .int .i64 lv, .int .i64 ti]) [.int .i64 0, .int .i64 lv, .int .i64 ti, .func (.func 57) #[] #[.pointer (some ⟨gf, 0, none⟩), .pointer (some ⟨gh, 0, none⟩), .pointer (some ⟨gx, 0, none⟩), .pointer (some ⟨gm, 0, none⟩)], .func (.func 61) #[] #[.pointer (some ⟨gh, 0, none⟩)]] rfl rfl rfl (by exact Try.sizeOf104) rfl rfl rfl rfl rfl) ?_
  rintro _ _ rfl
  refine O.nil ?_
  refine J.seq ?_
  refine J.region ?_
  refine O.p (Pu.move rfl) rfl ?_
  refine O.q (Qt.lenM Try.runUnderlying22 rfl (Src.ro 0 rfl)) rfl ?_
  refine O.p (Pu.move rfl) rfl ?_
  refine O.nil ?_
  refine J.block ?_
  refine J.loop (X := Nat × Wd × Dw.Ws) (fun ξ => ξ.1 ≤ l.length ∧ ((ξ.2.1, ξ.2.2) : Wd × Dw.Ws) = upI (Dw.overF s lv ti (Dw.wrC x) Dw.wrA) (⟨0, lv, ti⟩, (⟨Dw.mv0, Dw.kp0, false⟩ : Dw.Ws)) l ξ.1 ∧ 0 ≤ ξ.2.1.no ∧ ξ.2.1.no ≤ ξ.1) (fun ξ => [(0, .pointer (some ⟨gw, 0, none⟩)), (1, .int .i64 s), (2, .int .i64 lv), (3, .int .i64 ti), (19, ev_), (20, .int .i64 (l.length : Int)), (21, .int .i64 (ξ.1 : Int))]) (fun ξ => [var gw [.int .i64 ξ.2.1.no, .int .i64 ξ.2.1.th, .int .i64 ξ.2.1.ti, .func (.func 57) #[] #[.pointer (some ⟨gf, 0, none⟩), .pointer (some ⟨gh, 0, none⟩), .pointer (some ⟨gx, 0, none⟩), .pointer (some ⟨gm, 0, none⟩)], .func (.func 61) #[] #[.pointer (some ⟨gh, 0, none⟩)]] 110, var gf [.bool ξ.2.2.found] 4, var gh [.int .i64 ξ.2.2.held.way, .int .i64 ξ.2.2.held.frm, .int .i64 ξ.2.2.held.dim, .int .i64 ξ.2.2.held.at_] 101, var gx [.int .i64 x.low, .int .i64 x.high, .int .i64 x.cut, .int .i64 x.lift, .int .i64 x.floor, .int .i64 x.turn, .int .i64 x.dwell] 42, var gm [.int .i64 ξ.2.2.fst.at_, .int .i64 ξ.2.2.fst.way, .int .i64 ξ.2.2.fst.tier] 44]) (fun ξ => l.length - ξ.1) ⟨0, (⟨0, lv, ti⟩ : Wd), (⟨Dw.mv0, Dw.kp0, false⟩ : Dw.Ws)⟩ (show 0 ≤ l.length ∧ (((⟨0, lv, ti⟩ : Wd), (⟨Dw.mv0, Dw.kp0, false⟩ : Dw.Ws)) : Wd × Dw.Ws) = upI (Dw.overF s lv ti (Dw.wrC x) Dw.wrA) (⟨0, lv, ti⟩, (⟨Dw.mv0, Dw.kp0, false⟩ : Dw.Ws)) l 0 ∧ 0 ≤ (⟨0, lv, ti⟩ : Wd).no ∧ (⟨0, lv, ti⟩ : Wd).no ≤ 0 from ⟨by omega, rfl, by simp, by simp⟩) ⟨rfl, rfl, rfl, rfl, rfl, rfl, (congrArg (fun z => some (Value.int .i64 z)) (by first | rfl | omega : (0 : Int) = (0 : Int))), trivial⟩ [0, 1, 2, 3, 4] (by decide) rfl ?_
  rintro ⟨k, wd, z⟩ hq1
  obtain ⟨hk, hst, hn0, hn1⟩ : k ≤ l.length ∧ ((wd, z) : Wd × Dw.Ws) = upI (Dw.overF s lv ti (Dw.wrC x) Dw.wrA) (⟨0, lv, ti⟩, (⟨Dw.mv0, Dw.kp0, false⟩ : Dw.Ws)) l k ∧ 0 ≤ wd.no ∧ wd.no ≤ k := hq1
  show J _ _ [(0, .pointer (some ⟨gw, 0, none⟩)), (1, .int .i64 s), (2, .int .i64 lv), (3, .int .i64 ti), (19, ev_), (20, .int .i64 (l.length : Int)), (21, .int .i64 (k : Int))] [var gw [.int .i64 wd.no, .int .i64 wd.th, .int .i64 wd.ti, .func (.func 57) #[] #[.pointer (some ⟨gf, 0, none⟩), .pointer (some ⟨gh, 0, none⟩), .pointer (some ⟨gx, 0, none⟩), .pointer (some ⟨gm, 0, none⟩)], .func (.func 61) #[] #[.pointer (some ⟨gh, 0, none⟩)]] 110, var gf [.bool z.found] 4, var gh [.int .i64 z.held.way, .int .i64 z.held.frm, .int .i64 z.held.dim, .int .i64 z.held.at_] 101, var gx [.int .i64 x.low, .int .i64 x.high, .int .i64 x.cut, .int .i64 x.lift, .int .i64 x.floor, .int .i64 x.turn, .int .i64 x.dwell] 42, var gm [.int .i64 z.fst.at_, .int .i64 z.fst.way, .int .i64 z.fst.tier] 44]
  refine J.seq ?_
  refine J.region ?_
  refine O.p (Pu.lss rfl rfl) rfl ?_
  refine O.nil ?_
  refine J.seq ?_
  refine J.cond rfl (fun h2 => ?_) (fun h2 => ?_)
  ·
    have p3 := of_decide_eq_true h2
    refine J.skip ?_
    refine J.seq ?_
    refine J.block ?_
    refine J.seq ?_
    refine J.region ?_
    refine O.p (Pu.move rfl) rfl ?_
    obtain ⟨e4, he4⟩ : ∃ e, l[k]? = some e := ⟨_, List.getElem?_eq_getElem (by first | omega | (simp only [List.length_append, List.length_cons, List.length_nil, List.length_set]; omega))⟩
    refine O.q (Qt.idxM Try.runUnderlying22 Try.sizeOf93 rfl (Src.ro 0 rfl) rfl (by first | omega | (simp only [List.length_append, List.length_cons, List.length_nil, List.length_set]; omega)) (by first | omega | (simp only [List.length_append, List.length_cons, List.length_nil, List.length_set]; omega))) rfl ?_
    refine O.q (Qt.ld rfl (Cel.eltM (Src.ro 0 rfl) he4) (o := (voff ev_ + k * 7)) (off := 0) (by omega) (Cut.agg [.int .i64 e4.kind, .int .i64 e4.tick, .int .i64 e4.s, .int .i64 e4.id, .int .i64 e4.code, .int .i64 e4.a, .int .i64 e4.b] Try.isAgg93 Try.sizeOf93 rfl rfl)) rfl ?_
    refine O.l (Lo.alloc [.int .i64 0, .int .i64 0, .int .i64 0, .int .i64 0, .int .i64 0, .int .i64 0, .int .i64 0] (by exact Try.zeroValue93) rfl) rfl ?_
    rintro _ _ ⟨g5, rfl, rfl⟩
    refine O.p (Pu.assign rfl) rfl ?_
    refine O.l0 (Lo.store 0 (vs := [.int .i64 e4.kind, .int .i64 e4.tick, .int .i64 e4.s, .int .i64 e4.id, .int .i64 e4.code, .int .i64 e4.a, .int .i64 e4.b]) [.int .i64 e4.kind, .int .i64 e4.tick, .int .i64 e4.s, .int .i64 e4.id, .int .i64 e4.code, .int .i64 e4.a, .int .i64 e4.b] rfl rfl rfl (by exact Try.sizeOf93) rfl rfl rfl rfl rfl) ?_
    rintro _ _ rfl
    refine O.nil ?_
    refine J.block ?_
    refine J.seq ?_
    refine J.region ?_
    refine O.p (Pu.fieldAddr (off' := 2) Try.runUnderlying93 rfl Try.sizeOf3 rfl rfl rfl) rfl ?_
    refine O.q (Qt.ld rfl (Cel.var 0 rfl) (o := 0) (off := 2) rfl (Cut.one Try.isAgg3 rfl)) rfl ?_
    refine O.p (Pu.move rfl) rfl ?_
    refine O.p (Pu.neq rfl rfl) rfl ?_
    refine O.p (Pu.assign rfl) rfl ?_
    refine O.nil ?_
    refine J.cond rfl (fun h6 => ?_) (fun h6 => ?_)
    ·
      have p7 := of_decide_eq_true h6
      refine J.skip ?_
      refine J.blk ?_
      refine J.blk ?_
      refine J.region ?_
      refine O.p (Pu.add' rfl rfl (by first | omega | (simp only [List.length_append, List.length_cons, List.length_nil, List.length_set]; omega))) rfl ?_
      refine O.p (Pu.move rfl) rfl ?_
      refine O.nil ?_
      exact J.lp ⟨k + 1, wd, z⟩ (show (k + 1) ≤ l.length ∧ ((wd, z) : Wd × Dw.Ws) = upI (Dw.overF s lv ti (Dw.wrC x) Dw.wrA) (⟨0, lv, ti⟩, (⟨Dw.mv0, Dw.kp0, false⟩ : Dw.Ws)) l (k + 1) ∧ 0 ≤ wd.no ∧ wd.no ≤ (k + 1) from ⟨by omega, (by rw [upI_succ (by assumption), ← hst]; simp [Dw.overF, Dw.wrA, *]), by first | omega | (simp only []; omega), by first | omega | (simp only []; omega)⟩) (show l.length - (k + 1) < l.length - k from (by first | omega | (simp only [List.length_append, List.length_cons, List.length_nil, List.length_set]; omega))) ⟨rfl, rfl, rfl, rfl, rfl, rfl, (congrArg (fun z => some (Value.int .i64 z)) (by first | rfl | omega : ((k : Int) + 1 : Int) = ((k + 1) : Int))), trivial⟩ [1, 2, 3, 4, 5] (by decide) rfl
    ·
      have p8 := of_decide_eq_false h6
      refine J.seq ?_
      refine J.region ?_
      refine O.p (Pu.fieldAddr (off' := 0) Try.runUnderlying93 rfl Try.sizeOf3 rfl rfl rfl) rfl ?_
      refine O.q (Qt.ld rfl (Cel.var 0 rfl) (o := 0) (off := 0) rfl (Cut.one Try.isAgg3 rfl)) rfl ?_
      refine O.p (Pu.eql rfl rfl) rfl ?_
      refine O.p (Pu.assign rfl) rfl ?_
      refine O.nil ?_
      refine J.cond rfl (fun h9 => ?_) (fun h9 => ?_)
      ·
        have p10 := of_decide_eq_true h9
        refine J.seq ?_
        refine J.region ?_
        refine O.p (Pu.move rfl) rfl ?_
        refine O.p (Pu.move rfl) rfl ?_
        refine O.p (Pu.move rfl) rfl ?_
        refine O.p (Pu.move rfl) rfl ?_
        refine O.p (Pu.nilCheck rfl) rfl ?_
        refine O.p (Pu.fieldAddr (off' := 0) Try.runUnderlying110 rfl Try.sizeOf104 rfl rfl rfl) rfl ?_
        refine O.p (Pu.fieldAddr (off' := 1) Try.runUnderlying104 rfl Try.sizeOf3 rfl rfl rfl) rfl ?_
        refine O.l0 (Lo.store 1 (vs := [.int .i64 lv]) [.int .i64 wd.no, .int .i64 lv, .int .i64 wd.ti, .func (.func 57) #[] #[.pointer (some ⟨gf, 0, none⟩), .pointer (some ⟨gh, 0, none⟩), .pointer (some ⟨gx, 0, none⟩), .pointer (some ⟨gm, 0, none⟩)], .func (.func 61) #[] #[.pointer (some ⟨gh, 0, none⟩)]] rfl rfl rfl (by exact Try.sizeOf3) rfl rfl rfl rfl rfl) ?_
        rintro _ _ rfl
        refine O.p (Pu.nilCheck rfl) rfl ?_
        refine O.p (Pu.fieldAddr (off' := 0) Try.runUnderlying110 rfl Try.sizeOf104 rfl rfl rfl) rfl ?_
        refine O.p (Pu.fieldAddr (off' := 2) Try.runUnderlying104 rfl Try.sizeOf3 rfl rfl rfl) rfl ?_
        refine O.l0 (Lo.store 1 (vs := [.int .i64 ti]) [.int .i64 wd.no, .int .i64 lv, .int .i64 ti, .func (.func 57) #[] #[.pointer (some ⟨gf, 0, none⟩), .pointer (some ⟨gh, 0, none⟩), .pointer (some ⟨gx, 0, none⟩), .pointer (some ⟨gm, 0, none⟩)], .func (.func 61) #[] #[.pointer (some ⟨gh, 0, none⟩)]] rfl rfl rfl (by exact Try.sizeOf3) rfl rfl rfl rfl rfl) ?_
        rintro _ _ rfl
        refine O.nil ?_
        refine J.region ?_
        refine O.p (Pu.move rfl) rfl ?_
        refine O.p (Pu.nilCheck rfl) rfl ?_
        refine O.p (Pu.fieldAddr (off' := 4) Try.runUnderlying110 rfl Try.sizeOf1 rfl rfl rfl) rfl ?_
        refine O.q (Qt.ld rfl (Cel.var 1 rfl) (o := 0) (off := 4) rfl (Cut.one Try.isAgg1 rfl)) rfl ?_
        refine O.l (Lo.callV (vs := []) (caps := [.pointer (some ⟨gh, 0, none⟩)]) (by exact Try.call61) rfl rfl (dw_wrong2 gh z.held) [3] [0, 1, 2, 4, 5] (by decide) rfl _ rfl RoOk.nil) rfl ?_
        rintro _ _ ⟨_, ⟨rfl, rfl⟩, rfl⟩
        refine O.nil ?_
        refine J.blk ?_
        refine J.blk ?_
        refine J.region ?_
        refine O.p (Pu.add' rfl rfl (by first | omega | (simp only [List.length_append, List.length_cons, List.length_nil, List.length_set]; omega))) rfl ?_
        refine O.p (Pu.move rfl) rfl ?_
        refine O.nil ?_
        exact J.lp ⟨k + 1, (⟨wd.no, lv, ti⟩ : Wd), ⟨z.fst, Dw.kp0, z.found⟩⟩ (show (k + 1) ≤ l.length ∧ (((⟨wd.no, lv, ti⟩ : Wd), (⟨z.fst, Dw.kp0, z.found⟩)) : Wd × Dw.Ws) = upI (Dw.overF s lv ti (Dw.wrC x) Dw.wrA) (⟨0, lv, ti⟩, (⟨Dw.mv0, Dw.kp0, false⟩ : Dw.Ws)) l (k + 1) ∧ 0 ≤ (⟨wd.no, lv, ti⟩ : Wd).no ∧ (⟨wd.no, lv, ti⟩ : Wd).no ≤ (k + 1) from ⟨by omega, (by rw [upI_succ (by assumption), ← hst]; simp [Dw.overF, Dw.wrA, *]), by first | omega | (simp only []; omega), by first | omega | (simp only []; omega)⟩) (show l.length - (k + 1) < l.length - k from (by first | omega | (simp only [List.length_append, List.length_cons, List.length_nil, List.length_set]; omega))) ⟨rfl, rfl, rfl, rfl, rfl, rfl, (congrArg (fun z => some (Value.int .i64 z)) (by first | rfl | omega : ((k : Int) + 1 : Int) = ((k + 1) : Int))), trivial⟩ [2, 3, 0, 4, 5] (by decide) rfl
      ·
        have p12 := of_decide_eq_false h9
        refine J.seq ?_
        refine J.region ?_
        refine O.p (Pu.fieldAddr (off' := 0) Try.runUnderlying93 rfl Try.sizeOf3 rfl rfl rfl) rfl ?_
        refine O.q (Qt.ld rfl (Cel.var 0 rfl) (o := 0) (off := 0) rfl (Cut.one Try.isAgg3 rfl)) rfl ?_
        refine O.p (Pu.eql rfl rfl) rfl ?_
        refine O.p (Pu.assign rfl) rfl ?_
        refine O.nil ?_
        refine J.cond rfl (fun h13 => ?_) (fun h13 => ?_)
        ·
          have p14 := of_decide_eq_true h13
          refine J.seq ?_
          refine J.region ?_
          refine O.p (Pu.move rfl) rfl ?_
          refine O.p (Pu.nilCheck rfl) rfl ?_
          refine O.p (Pu.fieldAddr (off' := 0) Try.runUnderlying110 rfl Try.sizeOf104 rfl rfl rfl) rfl ?_
          refine O.q (Qt.ld rfl (Cel.var 1 rfl) (o := 0) (off := 0) rfl (Cut.agg [.int .i64 wd.no, .int .i64 wd.th, .int .i64 wd.ti] Try.isAgg104 Try.sizeOf104 rfl rfl)) rfl ?_
          refine O.l (Lo.alloc [.int .i64 0, .int .i64 0, .int .i64 0] (by exact Try.zeroValue104) rfl) rfl ?_
          rintro _ _ ⟨g15, rfl, rfl⟩
          refine O.l0 (Lo.store 0 (vs := [.int .i64 wd.no, .int .i64 wd.th, .int .i64 wd.ti]) [.int .i64 wd.no, .int .i64 wd.th, .int .i64 wd.ti] rfl rfl rfl (by exact Try.sizeOf104) rfl rfl rfl rfl rfl) ?_
          rintro _ _ rfl
          refine O.nil ?_
          refine J.seq ?_
          refine J.region ?_
          refine O.p (Pu.move rfl) rfl ?_
          refine O.p (Pu.fieldAddr (off' := 0) Try.runUnderlying104 rfl Try.sizeOf3 rfl rfl rfl) rfl ?_
          refine O.q (Qt.ld rfl (Cel.var 0 rfl) (o := 0) (off := 0) rfl (Cut.one Try.isAgg3 rfl)) rfl ?_
          refine O.p (Pu.add' rfl rfl (by first | omega | (simp only [List.length_append, List.length_cons, List.length_nil, List.length_set]; omega))) rfl ?_
          refine O.p (Pu.fieldAddr (off' := 5) Try.runUnderlying93 rfl Try.sizeOf3 rfl rfl rfl) rfl ?_
          refine O.q (Qt.ld rfl (Cel.var 1 rfl) (o := 0) (off := 5) rfl (Cut.one Try.isAgg3 rfl)) rfl ?_
          refine O.p (Pu.fieldAddr (off' := 6) Try.runUnderlying93 rfl Try.sizeOf3 rfl rfl rfl) rfl ?_
          refine O.q (Qt.ld rfl (Cel.var 1 rfl) (o := 0) (off := 6) rfl (Cut.one Try.isAgg3 rfl)) rfl ?_
          refine O.p (Pu.build [(0, .int .i64 (wd.no + 1)), (1, .int .i64 e4.a), (2, .int .i64 e4.b)] [.int .i64 (wd.no + 1), .int .i64 e4.a, .int .i64 e4.b] #[(0, 1), (1, 1), (2, 1)] Try.runUnderlying104 Try.zeroValue104 (places104 Try.underlying104) rfl (by kernel_rfl)) rfl ?_
          refine O.p (Pu.nilCheck rfl) rfl ?_
          refine O.p (Pu.fieldAddr (off' := 0) Try.runUnderlying110 rfl Try.sizeOf104 rfl rfl rfl) rfl ?_
          refine O.l0 (Lo.store 2 (vs := [.int .i64 (wd.no + 1), .int .i64 e4.a, .int .i64 e4.b]) [.int .i64 (wd.no + 1), .int .i64 e4.a, .int .i64 e4.b, .func (.func 57) #[] #[.pointer (some ⟨gf, 0, none⟩), .pointer (some ⟨gh, 0, none⟩), .pointer (some ⟨gx, 0, none⟩), .pointer (some ⟨gm, 0, none⟩)], .func (.func 61) #[] #[.pointer (some ⟨gh, 0, none⟩)]] rfl rfl rfl (by exact Try.sizeOf104) rfl rfl rfl rfl rfl) ?_
          rintro _ _ rfl
          refine O.nil ?_
          refine J.drawTail 10 Try.mixed (by kernel_rfl) ?_
          refine S.p (Pu.move rfl) rfl ?_
          refine S.p (Pu.nilCheck rfl) rfl ?_
          refine S.p (Pu.fieldAddr (off' := 3) Try.runUnderlying110 rfl Try.sizeOf108 rfl rfl rfl) rfl ?_
          refine S.q (Qt.ld rfl (Cel.var 2 rfl) (o := 0) (off := 3) rfl (Cut.one Try.isAgg108 rfl)) rfl ?_
          refine S.p (Pu.move rfl) rfl ?_
          refine S.q (Qt.ld rfl (Cel.var 0 rfl) (o := 0) (off := 0) rfl (Cut.agg [.int .i64 wd.no, .int .i64 wd.th, .int .i64 wd.ti] Try.isAgg104 Try.sizeOf104 rfl rfl)) rfl ?_
          refine S.p (Pu.move rfl) rfl ?_
          refine S.p (Pu.nilCheck rfl) rfl ?_
          refine S.p (Pu.fieldAddr (off' := 0) Try.runUnderlying110 rfl Try.sizeOf104 rfl rfl rfl) rfl ?_
          refine S.q (Qt.ld rfl (Cel.var 2 rfl) (o := 0) (off := 0) rfl (Cut.agg [.int .i64 (wd.no + 1), .int .i64 e4.a, .int .i64 e4.b] Try.isAgg104 Try.sizeOf104 rfl rfl)) rfl ?_
          refine S.endO ?_
          refine O.l (Lo.callV (vs := [.int .i64 (k : Int), .agg #[.int .i64 wd.no, .int .i64 wd.th, .int .i64 wd.ti], .agg #[.int .i64 (wd.no + 1), .int .i64 e4.a, .int .i64 e4.b]]) (caps := [.pointer (some ⟨gf, 0, none⟩), .pointer (some ⟨gh, 0, none⟩), .pointer (some ⟨gx, 0, none⟩), .pointer (some ⟨gm, 0, none⟩)]) (by exact Try.call57) rfl rfl (dw_wrong1 (k : Int) wd (⟨wd.no + 1, e4.a, e4.b⟩ : Wd) gf gh gx gm z.fst z.held z.found x) [3, 4, 5, 6] [0, 1, 2] (by decide) rfl _ rfl RoOk.nil) rfl ?_
          rintro _ _ ⟨_, ⟨rfl, rfl⟩, rfl⟩
          refine O.nil ?_
          refine J.blk ?_
          refine J.blk ?_
          refine J.region ?_
          refine O.p (Pu.add' rfl rfl (by first | omega | (simp only [List.length_append, List.length_cons, List.length_nil, List.length_set]; omega))) rfl ?_
          refine O.p (Pu.move rfl) rfl ?_
          refine O.nil ?_
          exact J.lp ⟨k + 1, (⟨wd.no + 1, e4.a, e4.b⟩ : Wd), (Dw.wrC x z (k : Int) wd (⟨wd.no + 1, e4.a, e4.b⟩ : Wd))⟩ (show (k + 1) ≤ l.length ∧ (((⟨wd.no + 1, e4.a, e4.b⟩ : Wd), (Dw.wrC x z (k : Int) wd (⟨wd.no + 1, e4.a, e4.b⟩ : Wd))) : Wd × Dw.Ws) = upI (Dw.overF s lv ti (Dw.wrC x) Dw.wrA) (⟨0, lv, ti⟩, (⟨Dw.mv0, Dw.kp0, false⟩ : Dw.Ws)) l (k + 1) ∧ 0 ≤ (⟨wd.no + 1, e4.a, e4.b⟩ : Wd).no ∧ (⟨wd.no + 1, e4.a, e4.b⟩ : Wd).no ≤ (k + 1) from ⟨by omega, (by rw [upI_succ (by assumption), ← hst]; simp [Dw.overF, Dw.wrA, *]), by first | omega | (simp only []; omega), by first | omega | (simp only []; omega)⟩) (show l.length - (k + 1) < l.length - k from (by first | omega | (simp only [List.length_append, List.length_cons, List.length_nil, List.length_set]; omega))) ⟨rfl, rfl, rfl, rfl, rfl, rfl, (congrArg (fun z => some (Value.int .i64 z)) (by first | rfl | omega : ((k : Int) + 1 : Int) = ((k + 1) : Int))), trivial⟩ [6, 0, 1, 2, 3] (by decide) rfl
        ·
          have p17 := of_decide_eq_false h13
          refine J.skip ?_
          refine J.blk ?_
          refine J.blk ?_
          refine J.region ?_
          refine O.p (Pu.add' rfl rfl (by first | omega | (simp only [List.length_append, List.length_cons, List.length_nil, List.length_set]; omega))) rfl ?_
          refine O.p (Pu.move rfl) rfl ?_
          refine O.nil ?_
          exact J.lp ⟨k + 1, wd, z⟩ (show (k + 1) ≤ l.length ∧ ((wd, z) : Wd × Dw.Ws) = upI (Dw.overF s lv ti (Dw.wrC x) Dw.wrA) (⟨0, lv, ti⟩, (⟨Dw.mv0, Dw.kp0, false⟩ : Dw.Ws)) l (k + 1) ∧ 0 ≤ wd.no ∧ wd.no ≤ (k + 1) from ⟨by omega, (by rw [upI_succ (by assumption), ← hst]; simp [Dw.overF, Dw.wrA, *]), by first | omega | (simp only []; omega), by first | omega | (simp only []; omega)⟩) (show l.length - (k + 1) < l.length - k from (by first | omega | (simp only [List.length_append, List.length_cons, List.length_nil, List.length_set]; omega))) ⟨rfl, rfl, rfl, rfl, rfl, rfl, (congrArg (fun z => some (Value.int .i64 z)) (by first | rfl | omega : ((k : Int) + 1 : Int) = ((k + 1) : Int))), trivial⟩ [1, 2, 3, 4, 5] (by decide) rfl
  ·
    have p18 := of_decide_eq_false h2
    refine J.exit _ rfl ?_
    exact J.done (Fin.ret (rs := []) rfl [] trivial [1, 4] (by decide) [var gf [.bool z.found] 4, var gm [.int .i64 z.fst.at_, .int .i64 z.fst.way, .int .i64 z.fst.tier] 44] rfl ⟨rfl, congrArg (fun z => ([var gf [.bool ((z : Dw.Ws).found)] 4, var gm [.int .i64 (((z : Dw.Ws).fst).at_), .int .i64 (((z : Dw.Ws).fst).way), .int .i64 (((z : Dw.Ws).fst).tier)] 44] : List Sp)) (show z = Dw.ws s lv ti x l from (by have hk2 : k = l.length := (by omega); rw [Dw.ws, Dw.over, ← hk2, ← hst]))⟩)

set_option maxRecDepth 100000 in
theorem dw_over_windows (gw : Nat) (gn : Nat) (w0_ : Wd) (s lv ti : Int) (ev_ : Value) (l : List Ev) (hl : l.length ≤ 100000) : Tri Try.prog 62 #[.pointer (some ⟨gw, 0, none⟩), .int .i64 s, .int .i64 lv, .int .i64 ti, ev_] [rd ev_ 7 (l.map Ev.cells)] [var gw [.int .i64 w0_.no, .int .i64 w0_.th, .int .i64 w0_.ti, .func (.func 68) #[] #[.pointer (some ⟨gn, 0, none⟩)], .func (.func 69) #[] #[.pointer (some ⟨gn, 0, none⟩)]] 110, var gn [.int .i64 0] 3] (fun v L' => v = .tuple #[] ∧ L' = [var gn [.int .i64 ((Dw.over s lv ti Dw.wnC (fun _ => 0) 0 l) : Int)] 3]) := by
  refine Tri.enter (args := [.pointer (some ⟨gw, 0, none⟩), .int .i64 s, .int .i64 lv, .int .i64 ti, ev_]) (body := _) 81 Try.func62 rfl Try.ntmps62 rfl ?_
  intro w0
  refine J.seq ?_
  refine J.region ?_
  refine O.p (Pu.move rfl) rfl ?_
  refine O.p (Pu.move rfl) rfl ?_
  refine O.p (Pu.move rfl) rfl ?_
  refine O.p (Pu.build [(0, .int .i64 0), (1, .int .i64 lv), (2, .int .i64 ti)] [.int .i64 0, .int .i64 lv, .int .i64 ti] #[(0, 1), (1, 1), (2, 1)] Try.runUnderlying104 Try.zeroValue104 (places104 Try.underlying104) rfl (by kernel_rfl)) rfl ?_
  refine O.p (Pu.nilCheck rfl) rfl ?_
  refine O.p (Pu.fieldAddr (off' := 0) Try.runUnderlying110 rfl Try.sizeOf104 rfl rfl rfl) rfl ?_
  refine O.l0 (Lo.store 0 (vs := [.int .i64 0, .int .i64 lv, .int .i64 ti]) [.int .i64 0, .int .i64 lv, .int .i64 ti, .func (.func 68) #[] #[.pointer (some ⟨gn, 0, none⟩)], .func (.func 69) #[] #[.pointer (some ⟨gn, 0, none⟩)]] rfl rfl rfl (by exact Try.sizeOf104) rfl rfl rfl rfl rfl) ?_
  rintro _ _ rfl
  refine O.nil ?_
  refine J.seq ?_
  refine J.region ?_
  refine O.p (Pu.move rfl) rfl ?_
  refine O.q (Qt.lenM Try.runUnderlying22 rfl (Src.ro 0 rfl)) rfl ?_
  refine O.p (Pu.move rfl) rfl ?_
  refine O.nil ?_
  refine J.block ?_
  refine J.loop (X := Nat × Wd × Int) (fun ξ => ξ.1 ≤ l.length ∧ ((ξ.2.1, ξ.2.2) : Wd × Int) = upI (Dw.overF s lv ti Dw.wnC (fun _ => 0)) (⟨0, lv, ti⟩, 0) l ξ.1 ∧ 0 ≤ ξ.2.1.no ∧ ξ.2.1.no ≤ ξ.1 ∧ (0 : Int) ≤ ξ.2.2 ∧ ξ.2.2 ≤ (ξ.1 : Int)) (fun ξ => [(0, .pointer (some ⟨gw, 0, none⟩)), (1, .int .i64 s), (2, .int .i64 lv), (3, .int .i64 ti), (19, ev_), (20, .int .i64 (l.length : Int)), (21, .int .i64 (ξ.1 : Int))]) (fun ξ => [var gw [.int .i64 ξ.2.1.no, .int .i64 ξ.2.1.th, .int .i64 ξ.2.1.ti, .func (.func 68) #[] #[.pointer (some ⟨gn, 0, none⟩)], .func (.func 69) #[] #[.pointer (some ⟨gn, 0, none⟩)]] 110, var gn [.int .i64 ξ.2.2] 3]) (fun ξ => l.length - ξ.1) ⟨0, (⟨0, lv, ti⟩ : Wd), 0⟩ (show 0 ≤ l.length ∧ (((⟨0, lv, ti⟩ : Wd), 0) : Wd × Int) = upI (Dw.overF s lv ti Dw.wnC (fun _ => 0)) (⟨0, lv, ti⟩, 0) l 0 ∧ 0 ≤ (⟨0, lv, ti⟩ : Wd).no ∧ (⟨0, lv, ti⟩ : Wd).no ≤ 0 ∧ (0 : Int) ≤ 0 ∧ 0 ≤ (0 : Int) from ⟨by omega, rfl, by simp, by simp, by omega, by simp⟩) ⟨rfl, rfl, rfl, rfl, rfl, rfl, (congrArg (fun z => some (Value.int .i64 z)) (by first | rfl | omega : (0 : Int) = (0 : Int))), trivial⟩ [0, 1] (by decide) rfl ?_
  rintro ⟨k, wd, n⟩ hq1
  obtain ⟨hk, hst, hn0, hn1, hm0, hm1⟩ : k ≤ l.length ∧ ((wd, n) : Wd × Int) = upI (Dw.overF s lv ti Dw.wnC (fun _ => 0)) (⟨0, lv, ti⟩, 0) l k ∧ 0 ≤ wd.no ∧ wd.no ≤ k ∧ (0 : Int) ≤ n ∧ n ≤ (k : Int) := hq1
  show J _ _ [(0, .pointer (some ⟨gw, 0, none⟩)), (1, .int .i64 s), (2, .int .i64 lv), (3, .int .i64 ti), (19, ev_), (20, .int .i64 (l.length : Int)), (21, .int .i64 (k : Int))] [var gw [.int .i64 wd.no, .int .i64 wd.th, .int .i64 wd.ti, .func (.func 68) #[] #[.pointer (some ⟨gn, 0, none⟩)], .func (.func 69) #[] #[.pointer (some ⟨gn, 0, none⟩)]] 110, var gn [.int .i64 n] 3]
  refine J.seq ?_
  refine J.region ?_
  refine O.p (Pu.lss rfl rfl) rfl ?_
  refine O.nil ?_
  refine J.seq ?_
  refine J.cond rfl (fun h2 => ?_) (fun h2 => ?_)
  ·
    have p3 := of_decide_eq_true h2
    refine J.skip ?_
    refine J.seq ?_
    refine J.block ?_
    refine J.seq ?_
    refine J.region ?_
    refine O.p (Pu.move rfl) rfl ?_
    obtain ⟨e4, he4⟩ : ∃ e, l[k]? = some e := ⟨_, List.getElem?_eq_getElem (by first | omega | (simp only [List.length_append, List.length_cons, List.length_nil, List.length_set]; omega))⟩
    refine O.q (Qt.idxM Try.runUnderlying22 Try.sizeOf93 rfl (Src.ro 0 rfl) rfl (by first | omega | (simp only [List.length_append, List.length_cons, List.length_nil, List.length_set]; omega)) (by first | omega | (simp only [List.length_append, List.length_cons, List.length_nil, List.length_set]; omega))) rfl ?_
    refine O.q (Qt.ld rfl (Cel.eltM (Src.ro 0 rfl) he4) (o := (voff ev_ + k * 7)) (off := 0) (by omega) (Cut.agg [.int .i64 e4.kind, .int .i64 e4.tick, .int .i64 e4.s, .int .i64 e4.id, .int .i64 e4.code, .int .i64 e4.a, .int .i64 e4.b] Try.isAgg93 Try.sizeOf93 rfl rfl)) rfl ?_
    refine O.l (Lo.alloc [.int .i64 0, .int .i64 0, .int .i64 0, .int .i64 0, .int .i64 0, .int .i64 0, .int .i64 0] (by exact Try.zeroValue93) rfl) rfl ?_
    rintro _ _ ⟨g5, rfl, rfl⟩
    refine O.p (Pu.assign rfl) rfl ?_
    refine O.l0 (Lo.store 0 (vs := [.int .i64 e4.kind, .int .i64 e4.tick, .int .i64 e4.s, .int .i64 e4.id, .int .i64 e4.code, .int .i64 e4.a, .int .i64 e4.b]) [.int .i64 e4.kind, .int .i64 e4.tick, .int .i64 e4.s, .int .i64 e4.id, .int .i64 e4.code, .int .i64 e4.a, .int .i64 e4.b] rfl rfl rfl (by exact Try.sizeOf93) rfl rfl rfl rfl rfl) ?_
    rintro _ _ rfl
    refine O.nil ?_
    refine J.block ?_
    refine J.seq ?_
    refine J.region ?_
    refine O.p (Pu.fieldAddr (off' := 2) Try.runUnderlying93 rfl Try.sizeOf3 rfl rfl rfl) rfl ?_
    refine O.q (Qt.ld rfl (Cel.var 0 rfl) (o := 0) (off := 2) rfl (Cut.one Try.isAgg3 rfl)) rfl ?_
    refine O.p (Pu.move rfl) rfl ?_
    refine O.p (Pu.neq rfl rfl) rfl ?_
    refine O.p (Pu.assign rfl) rfl ?_
    refine O.nil ?_
    refine J.cond rfl (fun h6 => ?_) (fun h6 => ?_)
    ·
      have p7 := of_decide_eq_true h6
      refine J.skip ?_
      refine J.blk ?_
      refine J.blk ?_
      refine J.region ?_
      refine O.p (Pu.add' rfl rfl (by first | omega | (simp only [List.length_append, List.length_cons, List.length_nil, List.length_set]; omega))) rfl ?_
      refine O.p (Pu.move rfl) rfl ?_
      refine O.nil ?_
      exact J.lp ⟨k + 1, wd, n⟩ (show (k + 1) ≤ l.length ∧ ((wd, n) : Wd × Int) = upI (Dw.overF s lv ti Dw.wnC (fun _ => 0)) (⟨0, lv, ti⟩, 0) l (k + 1) ∧ 0 ≤ wd.no ∧ wd.no ≤ (k + 1) ∧ (0 : Int) ≤ n ∧ n ≤ ((k + 1) : Int) from ⟨by omega, (by rw [upI_succ (by assumption), ← hst]; simp [Dw.overF, Dw.wnC, *]), by first | omega | (simp only []; omega), by first | omega | (simp only []; omega), by omega, by omega⟩) (show l.length - (k + 1) < l.length - k from (by first | omega | (simp only [List.length_append, List.length_cons, List.length_nil, List.length_set]; omega))) ⟨rfl, rfl, rfl, rfl, rfl, rfl, (congrArg (fun z => some (Value.int .i64 z)) (by first | rfl | omega : ((k : Int) + 1 : Int) = ((k + 1) : Int))), trivial⟩ [1, 2] (by decide) rfl
    ·
      have p8 := of_decide_eq_false h6
      refine J.seq ?_
      refine J.region ?_
      refine O.p (Pu.fieldAddr (off' := 0) Try.runUnderlying93 rfl Try.sizeOf3 rfl rfl rfl) rfl ?_
      refine O.q (Qt.ld rfl (Cel.var 0 rfl) (o := 0) (off := 0) rfl (Cut.one Try.isAgg3 rfl)) rfl ?_
      refine O.p (Pu.eql rfl rfl) rfl ?_
      refine O.p (Pu.assign rfl) rfl ?_
      refine O.nil ?_
      refine J.cond rfl (fun h9 => ?_) (fun h9 => ?_)
      ·
        have p10 := of_decide_eq_true h9
        refine J.seq ?_
        refine J.region ?_
        refine O.p (Pu.move rfl) rfl ?_
        refine O.p (Pu.move rfl) rfl ?_
        refine O.p (Pu.move rfl) rfl ?_
        refine O.p (Pu.move rfl) rfl ?_
        refine O.p (Pu.nilCheck rfl) rfl ?_
        refine O.p (Pu.fieldAddr (off' := 0) Try.runUnderlying110 rfl Try.sizeOf104 rfl rfl rfl) rfl ?_
        refine O.p (Pu.fieldAddr (off' := 1) Try.runUnderlying104 rfl Try.sizeOf3 rfl rfl rfl) rfl ?_
        refine O.l0 (Lo.store 1 (vs := [.int .i64 lv]) [.int .i64 wd.no, .int .i64 lv, .int .i64 wd.ti, .func (.func 68) #[] #[.pointer (some ⟨gn, 0, none⟩)], .func (.func 69) #[] #[.pointer (some ⟨gn, 0, none⟩)]] rfl rfl rfl (by exact Try.sizeOf3) rfl rfl rfl rfl rfl) ?_
        rintro _ _ rfl
        refine O.p (Pu.nilCheck rfl) rfl ?_
        refine O.p (Pu.fieldAddr (off' := 0) Try.runUnderlying110 rfl Try.sizeOf104 rfl rfl rfl) rfl ?_
        refine O.p (Pu.fieldAddr (off' := 2) Try.runUnderlying104 rfl Try.sizeOf3 rfl rfl rfl) rfl ?_
        refine O.l0 (Lo.store 1 (vs := [.int .i64 ti]) [.int .i64 wd.no, .int .i64 lv, .int .i64 ti, .func (.func 68) #[] #[.pointer (some ⟨gn, 0, none⟩)], .func (.func 69) #[] #[.pointer (some ⟨gn, 0, none⟩)]] rfl rfl rfl (by exact Try.sizeOf3) rfl rfl rfl rfl rfl) ?_
        rintro _ _ rfl
        refine O.nil ?_
        refine J.region ?_
        refine O.p (Pu.move rfl) rfl ?_
        refine O.p (Pu.nilCheck rfl) rfl ?_
        refine O.p (Pu.fieldAddr (off' := 4) Try.runUnderlying110 rfl Try.sizeOf1 rfl rfl rfl) rfl ?_
        refine O.q (Qt.ld rfl (Cel.var 1 rfl) (o := 0) (off := 4) rfl (Cut.one Try.isAgg1 rfl)) rfl ?_
        refine O.l (Lo.callV (vs := []) (caps := [.pointer (some ⟨gn, 0, none⟩)]) (by exact Try.call69) rfl rfl (dw_windows2 gn n) [2] [0, 1] (by decide) rfl _ rfl RoOk.nil) rfl ?_
        rintro _ _ ⟨_, ⟨rfl, rfl⟩, rfl⟩
        refine O.nil ?_
        refine J.blk ?_
        refine J.blk ?_
        refine J.region ?_
        refine O.p (Pu.add' rfl rfl (by first | omega | (simp only [List.length_append, List.length_cons, List.length_nil, List.length_set]; omega))) rfl ?_
        refine O.p (Pu.move rfl) rfl ?_
        refine O.nil ?_
        exact J.lp ⟨k + 1, (⟨wd.no, lv, ti⟩ : Wd), 0⟩ (show (k + 1) ≤ l.length ∧ (((⟨wd.no, lv, ti⟩ : Wd), 0) : Wd × Int) = upI (Dw.overF s lv ti Dw.wnC (fun _ => 0)) (⟨0, lv, ti⟩, 0) l (k + 1) ∧ 0 ≤ (⟨wd.no, lv, ti⟩ : Wd).no ∧ (⟨wd.no, lv, ti⟩ : Wd).no ≤ (k + 1) ∧ (0 : Int) ≤ 0 ∧ 0 ≤ ((k + 1) : Int) from ⟨by omega, (by rw [upI_succ (by assumption), ← hst]; simp [Dw.overF, Dw.wnC, *]), by first | omega | (simp only []; omega), by first | omega | (simp only []; omega), by omega, by omega⟩) (show l.length - (k + 1) < l.length - k from (by first | omega | (simp only [List.length_append, List.length_cons, List.length_nil, List.length_set]; omega))) ⟨rfl, rfl, rfl, rfl, rfl, rfl, (congrArg (fun z => some (Value.int .i64 z)) (by first | rfl | omega : ((k : Int) + 1 : Int) = ((k + 1) : Int))), trivial⟩ [2, 0] (by decide) rfl
      ·
        have p12 := of_decide_eq_false h9
        refine J.seq ?_
        refine J.region ?_
        refine O.p (Pu.fieldAddr (off' := 0) Try.runUnderlying93 rfl Try.sizeOf3 rfl rfl rfl) rfl ?_
        refine O.q (Qt.ld rfl (Cel.var 0 rfl) (o := 0) (off := 0) rfl (Cut.one Try.isAgg3 rfl)) rfl ?_
        refine O.p (Pu.eql rfl rfl) rfl ?_
        refine O.p (Pu.assign rfl) rfl ?_
        refine O.nil ?_
        refine J.cond rfl (fun h13 => ?_) (fun h13 => ?_)
        ·
          have p14 := of_decide_eq_true h13
          refine J.seq ?_
          refine J.region ?_
          refine O.p (Pu.move rfl) rfl ?_
          refine O.p (Pu.nilCheck rfl) rfl ?_
          refine O.p (Pu.fieldAddr (off' := 0) Try.runUnderlying110 rfl Try.sizeOf104 rfl rfl rfl) rfl ?_
          refine O.q (Qt.ld rfl (Cel.var 1 rfl) (o := 0) (off := 0) rfl (Cut.agg [.int .i64 wd.no, .int .i64 wd.th, .int .i64 wd.ti] Try.isAgg104 Try.sizeOf104 rfl rfl)) rfl ?_
          refine O.l (Lo.alloc [.int .i64 0, .int .i64 0, .int .i64 0] (by exact Try.zeroValue104) rfl) rfl ?_
          rintro _ _ ⟨g15, rfl, rfl⟩
          refine O.l0 (Lo.store 0 (vs := [.int .i64 wd.no, .int .i64 wd.th, .int .i64 wd.ti]) [.int .i64 wd.no, .int .i64 wd.th, .int .i64 wd.ti] rfl rfl rfl (by exact Try.sizeOf104) rfl rfl rfl rfl rfl) ?_
          rintro _ _ rfl
          refine O.nil ?_
          refine J.seq ?_
          refine J.region ?_
          refine O.p (Pu.move rfl) rfl ?_
          refine O.p (Pu.fieldAddr (off' := 0) Try.runUnderlying104 rfl Try.sizeOf3 rfl rfl rfl) rfl ?_
          refine O.q (Qt.ld rfl (Cel.var 0 rfl) (o := 0) (off := 0) rfl (Cut.one Try.isAgg3 rfl)) rfl ?_
          refine O.p (Pu.add' rfl rfl (by first | omega | (simp only [List.length_append, List.length_cons, List.length_nil, List.length_set]; omega))) rfl ?_
          refine O.p (Pu.fieldAddr (off' := 5) Try.runUnderlying93 rfl Try.sizeOf3 rfl rfl rfl) rfl ?_
          refine O.q (Qt.ld rfl (Cel.var 1 rfl) (o := 0) (off := 5) rfl (Cut.one Try.isAgg3 rfl)) rfl ?_
          refine O.p (Pu.fieldAddr (off' := 6) Try.runUnderlying93 rfl Try.sizeOf3 rfl rfl rfl) rfl ?_
          refine O.q (Qt.ld rfl (Cel.var 1 rfl) (o := 0) (off := 6) rfl (Cut.one Try.isAgg3 rfl)) rfl ?_
          refine O.p (Pu.build [(0, .int .i64 (wd.no + 1)), (1, .int .i64 e4.a), (2, .int .i64 e4.b)] [.int .i64 (wd.no + 1), .int .i64 e4.a, .int .i64 e4.b] #[(0, 1), (1, 1), (2, 1)] Try.runUnderlying104 Try.zeroValue104 (places104 Try.underlying104) rfl (by kernel_rfl)) rfl ?_
          refine O.p (Pu.nilCheck rfl) rfl ?_
          refine O.p (Pu.fieldAddr (off' := 0) Try.runUnderlying110 rfl Try.sizeOf104 rfl rfl rfl) rfl ?_
          refine O.l0 (Lo.store 2 (vs := [.int .i64 (wd.no + 1), .int .i64 e4.a, .int .i64 e4.b]) [.int .i64 (wd.no + 1), .int .i64 e4.a, .int .i64 e4.b, .func (.func 68) #[] #[.pointer (some ⟨gn, 0, none⟩)], .func (.func 69) #[] #[.pointer (some ⟨gn, 0, none⟩)]] rfl rfl rfl (by exact Try.sizeOf104) rfl rfl rfl rfl rfl) ?_
          rintro _ _ rfl
          refine O.nil ?_
          refine J.drawTail 10 Try.mixed (by kernel_rfl) ?_
          refine S.p (Pu.move rfl) rfl ?_
          refine S.p (Pu.nilCheck rfl) rfl ?_
          refine S.p (Pu.fieldAddr (off' := 3) Try.runUnderlying110 rfl Try.sizeOf108 rfl rfl rfl) rfl ?_
          refine S.q (Qt.ld rfl (Cel.var 2 rfl) (o := 0) (off := 3) rfl (Cut.one Try.isAgg108 rfl)) rfl ?_
          refine S.p (Pu.move rfl) rfl ?_
          refine S.q (Qt.ld rfl (Cel.var 0 rfl) (o := 0) (off := 0) rfl (Cut.agg [.int .i64 wd.no, .int .i64 wd.th, .int .i64 wd.ti] Try.isAgg104 Try.sizeOf104 rfl rfl)) rfl ?_
          refine S.p (Pu.move rfl) rfl ?_
          refine S.p (Pu.nilCheck rfl) rfl ?_
          refine S.p (Pu.fieldAddr (off' := 0) Try.runUnderlying110 rfl Try.sizeOf104 rfl rfl rfl) rfl ?_
          refine S.q (Qt.ld rfl (Cel.var 2 rfl) (o := 0) (off := 0) rfl (Cut.agg [.int .i64 (wd.no + 1), .int .i64 e4.a, .int .i64 e4.b] Try.isAgg104 Try.sizeOf104 rfl rfl)) rfl ?_
          refine S.endO ?_
          refine O.l (Lo.callV (vs := [.int .i64 (k : Int), .agg #[.int .i64 wd.no, .int .i64 wd.th, .int .i64 wd.ti], .agg #[.int .i64 (wd.no + 1), .int .i64 e4.a, .int .i64 e4.b]]) (caps := [.pointer (some ⟨gn, 0, none⟩)]) (by exact Try.call68) rfl rfl (dw_windows1 (k : Int) wd (⟨wd.no + 1, e4.a, e4.b⟩ : Wd) gn n (by omega) (by omega)) [3] [0, 1, 2] (by decide) rfl _ rfl RoOk.nil) rfl ?_
          rintro _ _ ⟨_, ⟨rfl, rfl⟩, rfl⟩
          refine O.nil ?_
          refine J.blk ?_
          refine J.blk ?_
          refine J.region ?_
          refine O.p (Pu.add' rfl rfl (by first | omega | (simp only [List.length_append, List.length_cons, List.length_nil, List.length_set]; omega))) rfl ?_
          refine O.p (Pu.move rfl) rfl ?_
          refine O.nil ?_
          exact J.lp ⟨k + 1, (⟨wd.no + 1, e4.a, e4.b⟩ : Wd), n + 1⟩ (show (k + 1) ≤ l.length ∧ (((⟨wd.no + 1, e4.a, e4.b⟩ : Wd), (n + 1)) : Wd × Int) = upI (Dw.overF s lv ti Dw.wnC (fun _ => 0)) (⟨0, lv, ti⟩, 0) l (k + 1) ∧ 0 ≤ (⟨wd.no + 1, e4.a, e4.b⟩ : Wd).no ∧ (⟨wd.no + 1, e4.a, e4.b⟩ : Wd).no ≤ (k + 1) ∧ (0 : Int) ≤ (n + 1) ∧ (n + 1) ≤ ((k + 1) : Int) from ⟨by omega, (by rw [upI_succ (by assumption), ← hst]; simp [Dw.overF, Dw.wnC, *]), by first | omega | (simp only []; omega), by first | omega | (simp only []; omega), by omega, by omega⟩) (show l.length - (k + 1) < l.length - k from (by first | omega | (simp only [List.length_append, List.length_cons, List.length_nil, List.length_set]; omega))) ⟨rfl, rfl, rfl, rfl, rfl, rfl, (congrArg (fun z => some (Value.int .i64 z)) (by first | rfl | omega : ((k : Int) + 1 : Int) = ((k + 1) : Int))), trivial⟩ [3, 0] (by decide) rfl
        ·
          have p17 := of_decide_eq_false h13
          refine J.skip ?_
          refine J.blk ?_
          refine J.blk ?_
          refine J.region ?_
          refine O.p (Pu.add' rfl rfl (by first | omega | (simp only [List.length_append, List.length_cons, List.length_nil, List.length_set]; omega))) rfl ?_
          refine O.p (Pu.move rfl) rfl ?_
          refine O.nil ?_
          exact J.lp ⟨k + 1, wd, n⟩ (show (k + 1) ≤ l.length ∧ ((wd, n) : Wd × Int) = upI (Dw.overF s lv ti Dw.wnC (fun _ => 0)) (⟨0, lv, ti⟩, 0) l (k + 1) ∧ 0 ≤ wd.no ∧ wd.no ≤ (k + 1) ∧ (0 : Int) ≤ n ∧ n ≤ ((k + 1) : Int) from ⟨by omega, (by rw [upI_succ (by assumption), ← hst]; simp [Dw.overF, Dw.wnC, *]), by first | omega | (simp only []; omega), by first | omega | (simp only []; omega), by omega, by omega⟩) (show l.length - (k + 1) < l.length - k from (by first | omega | (simp only [List.length_append, List.length_cons, List.length_nil, List.length_set]; omega))) ⟨rfl, rfl, rfl, rfl, rfl, rfl, (congrArg (fun z => some (Value.int .i64 z)) (by first | rfl | omega : ((k : Int) + 1 : Int) = ((k + 1) : Int))), trivial⟩ [1, 2] (by decide) rfl
  ·
    have p18 := of_decide_eq_false h2
    refine J.exit _ rfl ?_
    exact J.done (Fin.ret (rs := []) rfl [] trivial [1] (by decide) [var gn [.int .i64 n] 3] rfl ⟨rfl, congrArg (fun z => ([var gn [.int .i64 z] 3] : List Sp)) (show n = Dw.over s lv ti Dw.wnC (fun _ => 0) 0 l from (by have hk2 : k = l.length := (by omega); rw [Dw.over, ← hk2, ← hst]))⟩)

end Go.Proofs.Ytghhjhjpccipaaa
