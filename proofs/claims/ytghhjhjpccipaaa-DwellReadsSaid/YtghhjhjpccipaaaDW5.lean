/-
  Walks, printed by a program of mine (lk.py): each function meets its contract.
-/
import Derived.KernelRfl
import Derived.Test.YtghhjhjpccipaaaDW4
namespace Go.Proofs.Ytghhjhjpccipaaa
open Go Go.LK
set_option linter.unusedSimpArgs false

set_option maxRecDepth 100000 in
theorem r44_way (w : Win) : Tri Try.prog 65 #[.agg #[.int .i64 w.at_, .int .i64 w.no, .int .i64 w.was, .int .i64 w.is_, .int .i64 w.off, .int .i64 w.on, .bool w.first]] [] [] (fun v L' => v = .int .i64 (Dw.way w) ∧ L' = []) := by
  refine Tri.enter (args := [.agg #[.int .i64 w.at_, .int .i64 w.no, .int .i64 w.was, .int .i64 w.is_, .int .i64 w.off, .int .i64 w.on, .bool w.first]]) (body := _) 13 Try.func65 rfl Try.ntmps65 rfl ?_
  intro w0
  refine J.seq ?_
  refine J.region ?_
  refine O.l (Lo.box [.int .i64 w.at_, .int .i64 w.no, .int .i64 w.was, .int .i64 w.is_, .int .i64 w.off, .int .i64 w.on, .bool w.first] rfl rfl) rfl ?_
  rintro _ _ ⟨g1, rfl, rfl⟩
  refine O.p (Pu.assign rfl) rfl ?_
  refine O.nil ?_
  refine J.seq ?_
  refine J.seq ?_
  refine J.region ?_
  refine O.p (Pu.fieldAddr (off' := 3) Try.runUnderlying116 rfl Try.sizeOf3 rfl rfl rfl) rfl ?_
  refine O.q (Qt.ld rfl (Cel.var 0 rfl) (o := 0) (off := 3) rfl (Cut.one Try.isAgg3 rfl)) rfl ?_
  refine O.p (Pu.fieldAddr (off' := 2) Try.runUnderlying116 rfl Try.sizeOf3 rfl rfl rfl) rfl ?_
  refine O.q (Qt.ld rfl (Cel.var 0 rfl) (o := 0) (off := 2) rfl (Cut.one Try.isAgg3 rfl)) rfl ?_
  refine O.p (Pu.gtr rfl rfl) rfl ?_
  refine O.nil ?_
  refine J.cond rfl (fun h2 => ?_) (fun h2 => ?_)
  ·
    have p3 := of_decide_eq_true h2
    refine J.seq ?_
    refine J.region ?_
    refine O.p (Pu.assign rfl) rfl ?_
    refine O.nil ?_
    exact J.ret (Fin.ret (rs := [.tmp 2]) rfl [_] ⟨rfl, trivial⟩ [] (by decide) [] rfl ⟨by simp [vOf, Dw.way, *], rfl⟩)
  ·
    have p4 := of_decide_eq_false h2
    refine J.skip ?_
    refine J.seq ?_
    refine J.seq ?_
    refine J.region ?_
    refine O.p (Pu.fieldAddr (off' := 3) Try.runUnderlying116 rfl Try.sizeOf3 rfl rfl rfl) rfl ?_
    refine O.q (Qt.ld rfl (Cel.var 0 rfl) (o := 0) (off := 3) rfl (Cut.one Try.isAgg3 rfl)) rfl ?_
    refine O.p (Pu.fieldAddr (off' := 2) Try.runUnderlying116 rfl Try.sizeOf3 rfl rfl rfl) rfl ?_
    refine O.q (Qt.ld rfl (Cel.var 0 rfl) (o := 0) (off := 2) rfl (Cut.one Try.isAgg3 rfl)) rfl ?_
    refine O.p (Pu.lss rfl rfl) rfl ?_
    refine O.nil ?_
    refine J.cond rfl (fun h5 => ?_) (fun h5 => ?_)
    ·
      have p6 := of_decide_eq_true h5
      refine J.seq ?_
      refine J.region ?_
      refine O.p (Pu.assign rfl) rfl ?_
      refine O.nil ?_
      exact J.ret (Fin.ret (rs := [.tmp 2]) rfl [_] ⟨rfl, trivial⟩ [] (by decide) [] rfl ⟨by simp [vOf, Dw.way, *], rfl⟩)
    ·
      have p7 := of_decide_eq_false h5
      refine J.skip ?_
      refine J.seq ?_
      refine J.region ?_
      refine O.p (Pu.assign rfl) rfl ?_
      refine O.nil ?_
      exact J.ret (Fin.ret (rs := [.tmp 2]) rfl [_] ⟨rfl, trivial⟩ [] (by decide) [] rfl ⟨by simp [vOf, Dw.way, *], rfl⟩)

set_option maxRecDepth 100000 in
theorem r44_Wins (s lv ti : Int) (ev_ : Value) (l : List Ev) (hl : l.length ≤ 100000) : Tri Try.prog 63 #[.int .i64 s, .int .i64 lv, .int .i64 ti, ev_] [rd ev_ 7 (l.map Ev.cells)] [] (fun v L' => L' = [row v 116 7 ((Dw.wins s lv ti l).map Win.cells)]) := by
  refine Tri.enter (args := [.int .i64 s, .int .i64 lv, .int .i64 ti, ev_]) (body := _) 76 Try.func63 rfl Try.ntmps63 rfl ?_
  intro w0
  refine J.seq ?_
  refine J.region ?_
  refine O.p (Pu.assign rfl) rfl ?_
  refine O.nil ?_
  refine J.seq ?_
  refine J.region ?_
  refine O.p (Pu.assign rfl) rfl ?_
  refine O.nil ?_
  refine J.seq ?_
  refine J.region ?_
  refine O.p (Pu.move rfl) rfl ?_
  refine O.p (Pu.move rfl) rfl ?_
  refine O.p (Pu.assign rfl) rfl ?_
  refine O.p (Pu.assign rfl) rfl ?_
  refine O.p (Pu.assign rfl) rfl ?_
  refine O.nil ?_
  refine J.seq ?_
  refine J.region ?_
  refine O.p (Pu.assign rfl) rfl ?_
  refine O.nil ?_
  refine J.seq ?_
  refine J.seq ?_
  refine J.region ?_
  refine O.p (Pu.assign rfl) rfl ?_
  refine O.nil ?_
  refine J.block ?_
  refine J.nilRow 116 7 ?_
  refine J.loop (X := Nat × Wd × Bool × Value × List Win) (fun ξ => ξ.1 ≤ l.length ∧ (⟨ξ.2.1, ξ.2.2.1, ξ.2.2.2.2⟩ : Dw.Rs) = Dw.winsU s lv ti l ξ.1 ∧ ξ.2.2.2.2.length ≤ ξ.1 ∧ 0 ≤ ξ.2.1.no ∧ ξ.2.1.no ≤ ξ.1) (fun ξ => [(0, .int .i64 s), (1, .int .i64 lv), (2, .int .i64 ti), (3, ev_), (8, Value.slice none 0 0), (9, ξ.2.2.2.1), (10, .int .i64 ξ.2.1.th), (11, .int .i64 ξ.2.1.ti), (12, .int .i64 ξ.2.1.no), (13, .bool ξ.2.2.1), (14, .int .i64 (ξ.1 : Int))]) (fun ξ => [row ξ.2.2.2.1 116 7 (ξ.2.2.2.2.map Win.cells)]) (fun ξ => l.length - ξ.1) ⟨0, (⟨0, lv, ti⟩ : Wd), true, Value.slice none 0 0, []⟩ (show 0 ≤ l.length ∧ (⟨(⟨0, lv, ti⟩ : Wd), true, ([])⟩ : Dw.Rs) = Dw.winsU s lv ti l 0 ∧ ([]).length ≤ 0 ∧ 0 ≤ (⟨0, lv, ti⟩ : Wd).no ∧ (⟨0, lv, ti⟩ : Wd).no ≤ 0 from ⟨by omega, rfl, by simp, by simp, by simp⟩) ⟨rfl, rfl, rfl, rfl, rfl, rfl, (congrArg (fun z => some (Value.int .i64 z)) (by first | rfl | omega : (lv : Int) = (⟨0, lv, ti⟩ : Wd).th)), (congrArg (fun z => some (Value.int .i64 z)) (by first | rfl | omega : (ti : Int) = (⟨0, lv, ti⟩ : Wd).ti)), (congrArg (fun z => some (Value.int .i64 z)) (by first | rfl | omega : (0 : Int) = (⟨0, lv, ti⟩ : Wd).no)), rfl, (congrArg (fun z => some (Value.int .i64 z)) (by first | rfl | omega : (0 : Int) = (0 : Int))), trivial⟩ [0] (by decide) rfl ?_
  rintro ⟨k, wd, fb, V, out⟩ hq1
  obtain ⟨hk, hst, hlen, hn0, hn1⟩ : k ≤ l.length ∧ (⟨wd, fb, out⟩ : Dw.Rs) = Dw.winsU s lv ti l k ∧ out.length ≤ k ∧ 0 ≤ wd.no ∧ wd.no ≤ k := hq1
  show J _ _ [(0, .int .i64 s), (1, .int .i64 lv), (2, .int .i64 ti), (3, ev_), (8, Value.slice none 0 0), (9, V), (10, .int .i64 wd.th), (11, .int .i64 wd.ti), (12, .int .i64 wd.no), (13, .bool fb), (14, .int .i64 (k : Int))] [row V 116 7 (out.map Win.cells)]
  refine J.seq ?_
  refine J.seq ?_
  refine J.region ?_
  refine O.p (Pu.move rfl) rfl ?_
  refine O.p (Pu.move rfl) rfl ?_
  refine O.q (Qt.lenM Try.runUnderlying22 rfl (Src.ro 0 rfl)) rfl ?_
  refine O.p (Pu.lss rfl rfl) rfl ?_
  refine O.nil ?_
  refine J.cond rfl (fun h2 => ?_) (fun h2 => ?_)
  ·
    have p3 := of_decide_eq_true h2
    refine J.skip ?_
    refine J.seq ?_
    refine J.block ?_
    refine J.seq ?_
    refine J.seq ?_
    refine J.region ?_
    refine O.p (Pu.move rfl) rfl ?_
    refine O.p (Pu.move rfl) rfl ?_
    obtain ⟨e4, he4⟩ : ∃ e, l[k]? = some e := ⟨_, List.getElem?_eq_getElem (by first | omega | (simp only [List.length_append, List.length_cons, List.length_nil, List.length_set]; omega))⟩
    refine O.q (Qt.idxM Try.runUnderlying22 Try.sizeOf93 rfl (Src.ro 0 rfl) rfl (by first | omega | (simp only [List.length_append, List.length_cons, List.length_nil, List.length_set]; omega)) (by first | omega | (simp only [List.length_append, List.length_cons, List.length_nil, List.length_set]; omega))) rfl ?_
    refine O.p (Pu.fieldAddr (off' := voff ev_ + ((k : Int)).toNat * 7 + 2) Try.runUnderlying93 rfl Try.sizeOf3 rfl rfl rfl) rfl ?_
    refine O.q (Qt.ld rfl (Cel.eltM (Src.ro 0 rfl) he4) (o := (voff ev_ + k * 7)) (off := 2) (by omega) (Cut.one Try.isAgg3 rfl)) rfl ?_
    refine O.p (Pu.move rfl) rfl ?_
    refine O.p (Pu.neq rfl rfl) rfl ?_
    refine O.nil ?_
    refine J.cond rfl (fun h5 => ?_) (fun h5 => ?_)
    ·
      have p6 := of_decide_eq_true h5
      refine J.exit _ rfl ?_
      refine J.region ?_
      refine O.p (Pu.move rfl) rfl ?_
      refine O.p (Pu.add' rfl rfl (by first | omega | (simp only [List.length_append, List.length_cons, List.length_nil, List.length_set]; omega))) rfl ?_
      refine O.p (Pu.assign rfl) rfl ?_
      refine O.nil ?_
      exact J.lp ⟨k + 1, wd, fb, V, out⟩ (show (k + 1) ≤ l.length ∧ (⟨wd, fb, out⟩ : Dw.Rs) = Dw.winsU s lv ti l (k + 1) ∧ out.length ≤ (k + 1) ∧ 0 ≤ wd.no ∧ wd.no ≤ (k + 1) from ⟨by omega, (by rw [Dw.winsU, upI_succ (by assumption), ← Dw.winsU, ← hst]; simp [Dw.winsF, *]), by first | omega | (simp only [List.length_append, List.length_singleton]; omega), by first | omega | (simp only []; omega), by first | omega | (simp only []; omega)⟩) (show l.length - (k + 1) < l.length - k from (by first | omega | (simp only [List.length_append, List.length_cons, List.length_nil, List.length_set]; omega))) ⟨rfl, rfl, rfl, rfl, rfl, rfl, rfl, rfl, rfl, rfl, (congrArg (fun z => some (Value.int .i64 z)) (by first | rfl | omega : ((k : Int) + 1 : Int) = ((k + 1) : Int))), trivial⟩ [0] (by decide) rfl
    ·
      have p7 := of_decide_eq_false h5
      refine J.skip ?_
      refine J.seq ?_
      refine J.seq ?_
      refine J.region ?_
      refine O.p (Pu.move rfl) rfl ?_
      refine O.p (Pu.move rfl) rfl ?_
      refine O.q (Qt.idxM Try.runUnderlying22 Try.sizeOf93 rfl (Src.ro 0 rfl) rfl (by first | omega | (simp only [List.length_append, List.length_cons, List.length_nil, List.length_set]; omega)) (by first | omega | (simp only [List.length_append, List.length_cons, List.length_nil, List.length_set]; omega))) rfl ?_
      refine O.p (Pu.fieldAddr (off' := voff ev_ + ((k : Int)).toNat * 7 + 0) Try.runUnderlying93 rfl Try.sizeOf3 rfl rfl rfl) rfl ?_
      refine O.q (Qt.ld rfl (Cel.eltM (Src.ro 0 rfl) he4) (o := (voff ev_ + k * 7)) (off := 0) (by omega) (Cut.one Try.isAgg3 rfl)) rfl ?_
      refine O.p (Pu.eql rfl rfl) rfl ?_
      refine O.nil ?_
      refine J.cond rfl (fun h8 => ?_) (fun h8 => ?_)
      ·
        have p9 := of_decide_eq_true h8
        refine J.region ?_
        refine O.p (Pu.move rfl) rfl ?_
        refine O.p (Pu.move rfl) rfl ?_
        refine O.p (Pu.assign rfl) rfl ?_
        refine O.p (Pu.assign rfl) rfl ?_
        refine O.p (Pu.assign rfl) rfl ?_
        refine O.nil ?_
        refine J.seq ?_
        refine J.region ?_
        refine O.p (Pu.move rfl) rfl ?_
        refine O.p (Pu.move rfl) rfl ?_
        refine O.q (Qt.idxM Try.runUnderlying22 Try.sizeOf93 rfl (Src.ro 0 rfl) rfl (by first | omega | (simp only [List.length_append, List.length_cons, List.length_nil, List.length_set]; omega)) (by first | omega | (simp only [List.length_append, List.length_cons, List.length_nil, List.length_set]; omega))) rfl ?_
        refine O.p (Pu.fieldAddr (off' := voff ev_ + ((k : Int)).toNat * 7 + 0) Try.runUnderlying93 rfl Try.sizeOf3 rfl rfl rfl) rfl ?_
        refine O.q (Qt.ld rfl (Cel.eltM (Src.ro 0 rfl) he4) (o := (voff ev_ + k * 7)) (off := 0) (by omega) (Cut.one Try.isAgg3 rfl)) rfl ?_
        refine O.p (Pu.eql rfl rfl) rfl ?_
        refine O.nil ?_
        refine J.cond rfl (fun h10 => ?_) (fun h10 => ?_)
        ·
          have p11 := of_decide_eq_true h10
          exfalso; omega
        ·
          have p12 := of_decide_eq_false h10
          refine J.skip ?_
          refine J.blk ?_
          refine J.region ?_
          refine O.p (Pu.move rfl) rfl ?_
          refine O.p (Pu.add' rfl rfl (by first | omega | (simp only [List.length_append, List.length_cons, List.length_nil, List.length_set]; omega))) rfl ?_
          refine O.p (Pu.assign rfl) rfl ?_
          refine O.nil ?_
          exact J.lp ⟨k + 1, (⟨wd.no, lv, ti⟩ : Wd), true, V, out⟩ (show (k + 1) ≤ l.length ∧ (⟨(⟨wd.no, lv, ti⟩ : Wd), true, out⟩ : Dw.Rs) = Dw.winsU s lv ti l (k + 1) ∧ out.length ≤ (k + 1) ∧ 0 ≤ (⟨wd.no, lv, ti⟩ : Wd).no ∧ (⟨wd.no, lv, ti⟩ : Wd).no ≤ (k + 1) from ⟨by omega, (by rw [Dw.winsU, upI_succ (by assumption), ← Dw.winsU, ← hst]; simp [Dw.winsF, *]), by first | omega | (simp only [List.length_append, List.length_singleton]; omega), by first | omega | (simp only []; omega), by first | omega | (simp only []; omega)⟩) (show l.length - (k + 1) < l.length - k from (by first | omega | (simp only [List.length_append, List.length_cons, List.length_nil, List.length_set]; omega))) ⟨rfl, rfl, rfl, rfl, rfl, rfl, (congrArg (fun z => some (Value.int .i64 z)) (by first | rfl | omega : (lv : Int) = (⟨wd.no, lv, ti⟩ : Wd).th)), (congrArg (fun z => some (Value.int .i64 z)) (by first | rfl | omega : (ti : Int) = (⟨wd.no, lv, ti⟩ : Wd).ti)), (congrArg (fun z => some (Value.int .i64 z)) (by first | rfl | omega : (wd.no : Int) = (⟨wd.no, lv, ti⟩ : Wd).no)), rfl, (congrArg (fun z => some (Value.int .i64 z)) (by first | rfl | omega : ((k : Int) + 1 : Int) = ((k + 1) : Int))), trivial⟩ [0] (by decide) rfl
      ·
        have p13 := of_decide_eq_false h8
        refine J.skip ?_
        refine J.seq ?_
        refine J.region ?_
        refine O.p (Pu.move rfl) rfl ?_
        refine O.p (Pu.move rfl) rfl ?_
        refine O.q (Qt.idxM Try.runUnderlying22 Try.sizeOf93 rfl (Src.ro 0 rfl) rfl (by first | omega | (simp only [List.length_append, List.length_cons, List.length_nil, List.length_set]; omega)) (by first | omega | (simp only [List.length_append, List.length_cons, List.length_nil, List.length_set]; omega))) rfl ?_
        refine O.p (Pu.fieldAddr (off' := voff ev_ + ((k : Int)).toNat * 7 + 0) Try.runUnderlying93 rfl Try.sizeOf3 rfl rfl rfl) rfl ?_
        refine O.q (Qt.ld rfl (Cel.eltM (Src.ro 0 rfl) he4) (o := (voff ev_ + k * 7)) (off := 0) (by omega) (Cut.one Try.isAgg3 rfl)) rfl ?_
        refine O.p (Pu.eql rfl rfl) rfl ?_
        refine O.nil ?_
        refine J.cond rfl (fun h14 => ?_) (fun h14 => ?_)
        ·
          have p15 := of_decide_eq_true h14
          refine J.seq ?_
          refine J.region ?_
          refine O.p (Pu.move rfl) rfl ?_
          refine O.p (Pu.add' rfl rfl (by first | omega | (simp only [List.length_append, List.length_cons, List.length_nil, List.length_set]; omega))) rfl ?_
          refine O.p (Pu.assign rfl) rfl ?_
          refine O.nil ?_
          refine J.seq ?_
          refine J.drawMix [(0, false), (1, false), (2, false), (3, false), (4, false), (5, false), (6, false), (7, false), (8, false), (9, false), (10, false), (11, false), (12, false), (13, false), (14, false), (15, false), (16, false), (17, true), (18, true), (19, false)] [] [] Try.mixed (by kernel_rfl) (by decide) rfl ?_
          refine Mx.p rfl (Pu.move rfl) rfl ?_
          refine Mx.p rfl (Pu.move rfl) rfl ?_
          refine Mx.p rfl (Pu.move rfl) rfl ?_
          refine Mx.p rfl (Pu.move rfl) rfl ?_
          refine Mx.p rfl (Pu.move rfl) rfl ?_
          refine Mx.p rfl (Pu.move rfl) rfl ?_
          refine Mx.q rfl (Qt.idxM Try.runUnderlying22 Try.sizeOf93 rfl (Src.ro 0 rfl) rfl (by first | omega | (simp only [List.length_append, List.length_cons, List.length_nil, List.length_set]; omega)) (by first | omega | (simp only [List.length_append, List.length_cons, List.length_nil, List.length_set]; omega))) rfl ?_
          refine Mx.p rfl (Pu.fieldAddr (off' := voff ev_ + ((k : Int)).toNat * 7 + 5) Try.runUnderlying93 rfl Try.sizeOf3 rfl rfl rfl) rfl ?_
          refine Mx.q rfl (Qt.ld rfl (Cel.eltM (Src.ro 0 rfl) he4) (o := (voff ev_ + k * 7)) (off := 5) (by omega) (Cut.one Try.isAgg3 rfl)) rfl ?_
          refine Mx.p rfl (Pu.move rfl) rfl ?_
          refine Mx.p rfl (Pu.move rfl) rfl ?_
          refine Mx.p rfl (Pu.move rfl) rfl ?_
          refine Mx.q rfl (Qt.idxM Try.runUnderlying22 Try.sizeOf93 rfl (Src.ro 0 rfl) rfl (by first | omega | (simp only [List.length_append, List.length_cons, List.length_nil, List.length_set]; omega)) (by first | omega | (simp only [List.length_append, List.length_cons, List.length_nil, List.length_set]; omega))) rfl ?_
          refine Mx.p rfl (Pu.fieldAddr (off' := voff ev_ + ((k : Int)).toNat * 7 + 6) Try.runUnderlying93 rfl Try.sizeOf3 rfl rfl rfl) rfl ?_
          refine Mx.q rfl (Qt.ld rfl (Cel.eltM (Src.ro 0 rfl) he4) (o := (voff ev_ + k * 7)) (off := 6) (by omega) (Cut.one Try.isAgg3 rfl)) rfl ?_
          refine Mx.p rfl (Pu.move rfl) rfl ?_
          refine Mx.p rfl (Pu.build [(0, .int .i64 (k : Int)), (1, .int .i64 (wd.no + 1)), (2, .int .i64 wd.th), (3, .int .i64 e4.a), (4, .int .i64 wd.ti), (5, .int .i64 e4.b), (6, .bool fb)] [.int .i64 (k : Int), .int .i64 (wd.no + 1), .int .i64 wd.th, .int .i64 e4.a, .int .i64 wd.ti, .int .i64 e4.b, .bool fb] #[(0, 1), (1, 1), (2, 1), (3, 1), (4, 1), (5, 1), (6, 1)] Try.runUnderlying116 Try.zeroValue116 (places116 Try.underlying116) rfl (by kernel_rfl)) rfl ?_
          refine Mx.l rfl (Lo.buildM (s := 7) Win.cells [(⟨(k : Int), wd.no + 1, wd.th, e4.a, wd.ti, e4.b, fb⟩ : Win)] [(0, .agg #[.int .i64 (k : Int), .int .i64 (wd.no + 1), .int .i64 wd.th, .int .i64 e4.a, .int .i64 wd.ti, .int .i64 e4.b, .bool fb])] (by exact Try.runUnderlying112) (by exact Try.sizeOf116) (by exact Try.zeroValue116) rfl rfl rfl (by kernel_rfl) rfl rfl) rfl ?_
          rintro V16 _ rfl
          refine MxK.go [] [] [] (by decide) rfl (by decide) rfl ?_
          refine Mx.l rfl (Lo.appendM (s := 7) 1 (by exact Try.underlying112) (by exact (info116).1) (by exact (info116).2.1) (by exact (info116).2.2.1) (by exact (info116).2.2.2) rfl rfl rfl rfl rfl (Src.row 0 rfl) Win.one (by first | omega | (simp only [List.length_append, List.length_cons, List.length_nil, List.length_set]; omega)) (by first | omega | (simp only [List.length_append, List.length_cons, List.length_nil, List.length_set]; omega))) rfl ?_
          rintro V17 _ rfl
          refine MxK.go [] [] [] (by decide) rfl (by decide) rfl ?_
          refine Mx.p rfl (Pu.assign rfl) rfl ?_
          refine Mx.nil ?_
          refine J.drawStill Try.mixed (by kernel_rfl) ?_
          refine S.p (Pu.move rfl) rfl ?_
          refine S.p (Pu.move rfl) rfl ?_
          refine S.q (Qt.idxM Try.runUnderlying22 Try.sizeOf93 rfl (Src.ro 0 rfl) rfl (by first | omega | (simp only [List.length_append, List.length_cons, List.length_nil, List.length_set]; omega)) (by first | omega | (simp only [List.length_append, List.length_cons, List.length_nil, List.length_set]; omega))) rfl ?_
          refine S.p (Pu.fieldAddr (off' := voff ev_ + ((k : Int)).toNat * 7 + 5) Try.runUnderlying93 rfl Try.sizeOf3 rfl rfl rfl) rfl ?_
          refine S.q (Qt.ld rfl (Cel.eltM (Src.ro 0 rfl) he4) (o := (voff ev_ + k * 7)) (off := 5) (by omega) (Cut.one Try.isAgg3 rfl)) rfl ?_
          refine S.p (Pu.move rfl) rfl ?_
          refine S.p (Pu.move rfl) rfl ?_
          refine S.q (Qt.idxM Try.runUnderlying22 Try.sizeOf93 rfl (Src.ro 0 rfl) rfl (by first | omega | (simp only [List.length_append, List.length_cons, List.length_nil, List.length_set]; omega)) (by first | omega | (simp only [List.length_append, List.length_cons, List.length_nil, List.length_set]; omega))) rfl ?_
          refine S.p (Pu.fieldAddr (off' := voff ev_ + ((k : Int)).toNat * 7 + 6) Try.runUnderlying93 rfl Try.sizeOf3 rfl rfl rfl) rfl ?_
          refine S.q (Qt.ld rfl (Cel.eltM (Src.ro 0 rfl) he4) (o := (voff ev_ + k * 7)) (off := 6) (by omega) (Cut.one Try.isAgg3 rfl)) rfl ?_
          refine S.p (Pu.assign rfl) rfl ?_
          refine S.p (Pu.assign rfl) rfl ?_
          refine S.p (Pu.assign rfl) rfl ?_
          refine S.endJ ?_
          refine J.blk ?_
          refine J.region ?_
          refine O.p (Pu.move rfl) rfl ?_
          refine O.p (Pu.add' rfl rfl (by first | omega | (simp only [List.length_append, List.length_cons, List.length_nil, List.length_set]; omega))) rfl ?_
          refine O.p (Pu.assign rfl) rfl ?_
          refine O.nil ?_
          exact J.lp ⟨k + 1, (⟨wd.no + 1, e4.a, e4.b⟩ : Wd), false, V17, out ++ ([(⟨(k : Int), wd.no + 1, wd.th, e4.a, wd.ti, e4.b, fb⟩ : Win)])⟩ (show (k + 1) ≤ l.length ∧ (⟨(⟨wd.no + 1, e4.a, e4.b⟩ : Wd), false, (out ++ ([(⟨(k : Int), wd.no + 1, wd.th, e4.a, wd.ti, e4.b, fb⟩ : Win)]))⟩ : Dw.Rs) = Dw.winsU s lv ti l (k + 1) ∧ (out ++ ([(⟨(k : Int), wd.no + 1, wd.th, e4.a, wd.ti, e4.b, fb⟩ : Win)])).length ≤ (k + 1) ∧ 0 ≤ (⟨wd.no + 1, e4.a, e4.b⟩ : Wd).no ∧ (⟨wd.no + 1, e4.a, e4.b⟩ : Wd).no ≤ (k + 1) from ⟨by omega, (by rw [Dw.winsU, upI_succ (by assumption), ← Dw.winsU, ← hst]; simp [Dw.winsF, *]), by first | omega | (simp only [List.length_append, List.length_singleton]; omega), by first | omega | (simp only []; omega), by first | omega | (simp only []; omega)⟩) (show l.length - (k + 1) < l.length - k from (by first | omega | (simp only [List.length_append, List.length_cons, List.length_nil, List.length_set]; omega))) ⟨rfl, rfl, rfl, rfl, rfl, rfl, (congrArg (fun z => some (Value.int .i64 z)) (by first | rfl | omega : (e4.a : Int) = (⟨wd.no + 1, e4.a, e4.b⟩ : Wd).th)), (congrArg (fun z => some (Value.int .i64 z)) (by first | rfl | omega : (e4.b : Int) = (⟨wd.no + 1, e4.a, e4.b⟩ : Wd).ti)), (congrArg (fun z => some (Value.int .i64 z)) (by first | rfl | omega : (wd.no + 1 : Int) = (⟨wd.no + 1, e4.a, e4.b⟩ : Wd).no)), rfl, (congrArg (fun z => some (Value.int .i64 z)) (by first | rfl | omega : ((k : Int) + 1 : Int) = ((k + 1) : Int))), trivial⟩ [1] (by decide) rfl
        ·
          have p18 := of_decide_eq_false h14
          refine J.skip ?_
          refine J.blk ?_
          refine J.region ?_
          refine O.p (Pu.move rfl) rfl ?_
          refine O.p (Pu.add' rfl rfl (by first | omega | (simp only [List.length_append, List.length_cons, List.length_nil, List.length_set]; omega))) rfl ?_
          refine O.p (Pu.assign rfl) rfl ?_
          refine O.nil ?_
          exact J.lp ⟨k + 1, wd, fb, V, out⟩ (show (k + 1) ≤ l.length ∧ (⟨wd, fb, out⟩ : Dw.Rs) = Dw.winsU s lv ti l (k + 1) ∧ out.length ≤ (k + 1) ∧ 0 ≤ wd.no ∧ wd.no ≤ (k + 1) from ⟨by omega, (by rw [Dw.winsU, upI_succ (by assumption), ← Dw.winsU, ← hst]; simp [Dw.winsF, *]), by first | omega | (simp only [List.length_append, List.length_singleton]; omega), by first | omega | (simp only []; omega), by first | omega | (simp only []; omega)⟩) (show l.length - (k + 1) < l.length - k from (by first | omega | (simp only [List.length_append, List.length_cons, List.length_nil, List.length_set]; omega))) ⟨rfl, rfl, rfl, rfl, rfl, rfl, rfl, rfl, rfl, rfl, (congrArg (fun z => some (Value.int .i64 z)) (by first | rfl | omega : ((k : Int) + 1 : Int) = ((k + 1) : Int))), trivial⟩ [0] (by decide) rfl
  ·
    have p19 := of_decide_eq_false h2
    refine J.exit _ rfl ?_
    refine J.seq ?_
    refine J.region ?_
    refine O.p (Pu.move rfl) rfl ?_
    refine O.p (Pu.assign rfl) rfl ?_
    refine O.nil ?_
    exact J.ret (Fin.ret (rs := [.tmp 8]) rfl [_] ⟨rfl, trivial⟩ [0] (by decide) [row V 116 7 (out.map Win.cells)] rfl (congrArg (fun o => ([row V 116 7 (o.map Win.cells)] : List Sp)) (show out = Dw.wins s lv ti l from (by have hk2 : k = l.length := (by omega); rw [Dw.wins, ← hk2, ← hst]))))

set_option maxRecDepth 100000 in
theorem r44_Moves (s lv ti : Int) (ev_ : Value) (l : List Ev) (hl : l.length ≤ 100000) : Tri Try.prog 22 #[.int .i64 s, .int .i64 lv, .int .i64 ti, ev_] [rd ev_ 7 (l.map Ev.cells)] [] (fun v L' => L' = [row v 44 3 ((Dw.moves s lv ti l).map Mv.cells)]) := by
  have hwl : (Dw.wins s lv ti l).length ≤ l.length := Dw.wins_len s lv ti l l.length
  refine Tri.enter (args := [.int .i64 s, .int .i64 lv, .int .i64 ti, ev_]) (body := _) 59 Try.func22 rfl Try.ntmps22 rfl ?_
  intro w0
  refine J.seq ?_
  refine J.region ?_
  refine O.p (Pu.assign rfl) rfl ?_
  refine O.nil ?_
  refine J.seq ?_
  refine J.region ?_
  refine O.p (Pu.assign rfl) rfl ?_
  refine O.nil ?_
  refine J.seq ?_
  refine J.region ?_
  refine O.p (Pu.move rfl) rfl ?_
  refine O.p (Pu.move rfl) rfl ?_
  refine O.p (Pu.move rfl) rfl ?_
  refine O.p (Pu.move rfl) rfl ?_
  refine O.l (Lo.call [.int .i64 s, .int .i64 lv, .int .i64 ti, ev_] (by exact Try.call63) rfl (r44_Wins s lv ti ev_ l (by omega)) [] [] (by decide) rfl _ rfl (RoOk.ro 0 rfl [] rfl RoOk.nil)) rfl ?_
  rintro v1 _ ⟨_, rfl, rfl⟩
  refine O.p (Pu.assign rfl) rfl ?_
  refine O.nil ?_
  refine J.seq ?_
  refine J.seq ?_
  refine J.region ?_
  refine O.p (Pu.assign rfl) rfl ?_
  refine O.nil ?_
  refine J.block ?_
  refine J.nilRow 44 3 ?_
  refine J.loop (X := Nat × Value × List Mv) (fun ξ => ξ.1 ≤ (Dw.wins s lv ti l).length ∧ ξ.2.2 = ((Dw.wins s lv ti l).take ξ.1).filterMap Dw.mvO ∧ ξ.2.2.length ≤ ξ.1) (fun ξ => [(8, Value.slice none 0 0), (9, ξ.2.1), (10, v1), (11, .int .i64 (ξ.1 : Int))]) (fun ξ => [row v1 116 7 ((Dw.wins s lv ti l).map Win.cells), row ξ.2.1 44 3 (ξ.2.2.map Mv.cells)]) (fun ξ => (Dw.wins s lv ti l).length - ξ.1) ⟨0, Value.slice none 0 0, []⟩ (show 0 ≤ (Dw.wins s lv ti l).length ∧ ([]) = ((Dw.wins s lv ti l).take 0).filterMap Dw.mvO ∧ ([]).length ≤ 0 from ⟨by omega, rfl, by simp⟩) ⟨rfl, rfl, rfl, (congrArg (fun z => some (Value.int .i64 z)) (by first | rfl | omega : (0 : Int) = (0 : Int))), trivial⟩ [1, 0] (by decide) rfl ?_
  rintro ⟨k, V, out⟩ hq2
  obtain ⟨hk, hst, hlen⟩ : k ≤ (Dw.wins s lv ti l).length ∧ out = ((Dw.wins s lv ti l).take k).filterMap Dw.mvO ∧ out.length ≤ k := hq2
  show J _ _ [(8, Value.slice none 0 0), (9, V), (10, v1), (11, .int .i64 (k : Int))] [row v1 116 7 ((Dw.wins s lv ti l).map Win.cells), row V 44 3 (out.map Mv.cells)]
  refine J.seq ?_
  refine J.seq ?_
  refine J.region ?_
  refine O.p (Pu.move rfl) rfl ?_
  refine O.p (Pu.move rfl) rfl ?_
  refine O.q (Qt.lenM Try.runUnderlying112 rfl (Src.row 0 rfl)) rfl ?_
  refine O.p (Pu.lss rfl rfl) rfl ?_
  refine O.nil ?_
  refine J.cond rfl (fun h3 => ?_) (fun h3 => ?_)
  ·
    have p4 := of_decide_eq_true h3
    refine J.skip ?_
    refine J.seq ?_
    refine J.block ?_
    refine J.seq ?_
    refine J.drawNew 23 22 12 [.int .i64 0, .int .i64 0, .int .i64 0] Try.mixed (by kernel_rfl) rfl rfl (by exact Try.zeroValue44) rfl ?_
    refine Hd.p (Pu.move rfl) rfl ?_
    refine Hd.p (Pu.move rfl) rfl ?_
    obtain ⟨e5, he5⟩ : ∃ e, (Dw.wins s lv ti l)[k]? = some e := ⟨_, List.getElem?_eq_getElem (by first | omega | (simp only [List.length_append, List.length_cons, List.length_nil, List.length_set]; omega))⟩
    refine Hd.q (Qt.idxM Try.runUnderlying112 Try.sizeOf116 rfl (Src.row 0 rfl) rfl (by first | omega | (simp only [List.length_append, List.length_cons, List.length_nil, List.length_set]; omega)) (by first | omega | (simp only [List.length_append, List.length_cons, List.length_nil, List.length_set]; omega))) rfl ?_
    refine Hd.p (Pu.fieldAddr (off' := voff v1 + ((k : Int)).toNat * 7 + 0) Try.runUnderlying116 rfl Try.sizeOf3 rfl rfl rfl) rfl ?_
    refine Hd.q (Qt.ld rfl (Cel.eltM (Src.row 0 rfl) he5) (o := (voff v1 + k * 7)) (off := 0) (by omega) (Cut.one Try.isAgg3 rfl)) rfl ?_
    refine Hd.p (Pu.move rfl) rfl ?_
    refine Hd.p (Pu.move rfl) rfl ?_
    refine Hd.q (Qt.idxM Try.runUnderlying112 Try.sizeOf116 rfl (Src.row 0 rfl) rfl (by first | omega | (simp only [List.length_append, List.length_cons, List.length_nil, List.length_set]; omega)) (by first | omega | (simp only [List.length_append, List.length_cons, List.length_nil, List.length_set]; omega))) rfl ?_
    refine Hd.q (Qt.ld rfl (Cel.eltM (Src.row 0 rfl) he5) (o := (voff v1 + k * 7)) (off := 0) (by omega) (Cut.agg [.int .i64 e5.at_, .int .i64 e5.no, .int .i64 e5.was, .int .i64 e5.is_, .int .i64 e5.off, .int .i64 e5.on, .bool e5.first] Try.isAgg116 Try.sizeOf116 rfl rfl)) rfl ?_
    refine Hd.call (vs := [.agg #[.int .i64 e5.at_, .int .i64 e5.no, .int .i64 e5.was, .int .i64 e5.is_, .int .i64 e5.off, .int .i64 e5.on, .bool e5.first]]) (caps := []) (by exact Try.call65) rfl rfl (r44_way e5) (fun _ _ h => h) RoOk.nil rfl ?_
    refine Hd.p (Pu.move rfl) rfl ?_
    refine Hd.p (Pu.move rfl) rfl ?_
    refine Hd.q (Qt.idxM Try.runUnderlying112 Try.sizeOf116 rfl (Src.row 0 rfl) rfl (by first | omega | (simp only [List.length_append, List.length_cons, List.length_nil, List.length_set]; omega)) (by first | omega | (simp only [List.length_append, List.length_cons, List.length_nil, List.length_set]; omega))) rfl ?_
    refine Hd.p (Pu.fieldAddr (off' := voff v1 + ((k : Int)).toNat * 7 + 5) Try.runUnderlying116 rfl Try.sizeOf3 rfl rfl rfl) rfl ?_
    refine Hd.q (Qt.ld rfl (Cel.eltM (Src.row 0 rfl) he5) (o := (voff v1 + k * 7)) (off := 5) (by omega) (Cut.one Try.isAgg3 rfl)) rfl ?_
    refine Hd.p (Pu.move rfl) rfl ?_
    refine Hd.p (Pu.move rfl) rfl ?_
    refine Hd.q (Qt.idxM Try.runUnderlying112 Try.sizeOf116 rfl (Src.row 0 rfl) rfl (by first | omega | (simp only [List.length_append, List.length_cons, List.length_nil, List.length_set]; omega)) (by first | omega | (simp only [List.length_append, List.length_cons, List.length_nil, List.length_set]; omega))) rfl ?_
    refine Hd.p (Pu.fieldAddr (off' := voff v1 + ((k : Int)).toNat * 7 + 4) Try.runUnderlying116 rfl Try.sizeOf3 rfl rfl rfl) rfl ?_
    refine Hd.q (Qt.ld rfl (Cel.eltM (Src.row 0 rfl) he5) (o := (voff v1 + k * 7)) (off := 4) (by omega) (Cut.one Try.isAgg3 rfl)) rfl ?_
    refine Hd.p (Pu.sub rfl rfl) rfl ?_
    refine Hd.p (Pu.build [(0, .int .i64 e5.at_), (1, .int .i64 (Dw.way e5)), (2, .int .i64 (IntKind.i64.wrap (e5.on - e5.off)))] [.int .i64 e5.at_, .int .i64 (Dw.way e5), .int .i64 (IntKind.i64.wrap (e5.on - e5.off))] #[(0, 1), (1, 1), (2, 1)] Try.runUnderlying44 Try.zeroValue44 (places44 Try.underlying44) rfl (by kernel_rfl)) rfl ?_
    refine Hd.new rfl ?_
    refine Hd.nil ?_
    intro g6
    refine O.l0 (Lo.store 0 (vs := [.int .i64 e5.at_, .int .i64 (Dw.way e5), .int .i64 (IntKind.i64.wrap (e5.on - e5.off))]) [.int .i64 e5.at_, .int .i64 (Dw.way e5), .int .i64 (IntKind.i64.wrap (e5.on - e5.off))] rfl rfl rfl (by exact Try.sizeOf44) rfl rfl rfl rfl rfl) ?_
    rintro _ _ rfl
    refine O.nil ?_
    refine J.seq ?_
    refine J.region ?_
    refine O.p (Pu.fieldAddr (off' := 1) Try.runUnderlying44 rfl Try.sizeOf3 rfl rfl rfl) rfl ?_
    refine O.q (Qt.ld rfl (Cel.var 0 rfl) (o := 0) (off := 1) rfl (Cut.one Try.isAgg3 rfl)) rfl ?_
    refine O.p (Pu.neq rfl rfl) rfl ?_
    refine O.p (Pu.move rfl) rfl ?_
    refine by_bool (decide ((Dw.way e5) ≠ 0)) (fun h7 => ?_) (fun h7 => ?_)
    ·
      have p8 := of_decide_eq_true h7
      refine O.gskip (t := 49) rfl rfl (no_bool (by rw [h7]; decide)) rfl rfl ?_
      refine O.gskip (t := 49) rfl rfl (no_bool (by rw [h7]; decide)) rfl rfl ?_
      refine O.gskip (t := 49) rfl rfl (no_bool (by rw [h7]; decide)) rfl rfl ?_
      refine O.p (Pu.pickT rfl h7 rfl) rfl ?_
      refine O.nil ?_
      refine J.condT rfl rfl ?_
      refine J.region ?_
      refine O.p (Pu.move rfl) rfl ?_
      refine O.q (Qt.ld rfl (Cel.var 0 rfl) (o := 0) (off := 0) rfl (Cut.agg [.int .i64 e5.at_, .int .i64 (Dw.way e5), .int .i64 (IntKind.i64.wrap (e5.on - e5.off))] Try.isAgg44 Try.sizeOf44 rfl rfl)) rfl ?_
      refine O.l (Lo.buildM (s := 3) Mv.cells [(⟨e5.at_, Dw.way e5, IntKind.i64.wrap (e5.on - e5.off)⟩ : Mv)] [(0, .agg #[.int .i64 e5.at_, .int .i64 (Dw.way e5), .int .i64 (IntKind.i64.wrap (e5.on - e5.off))])] (by exact Try.runUnderlying49) (by exact Try.sizeOf44) (by exact Try.zeroValue44) rfl rfl rfl (by kernel_rfl) rfl rfl) rfl ?_
      rintro V9 _ rfl
      refine O.l (Lo.appendM (s := 3) 3 (by exact Try.underlying49) (by exact (info44).1) (by exact (info44).2.1) (by exact (info44).2.2.1) (by exact (info44).2.2.2) rfl rfl rfl rfl rfl (Src.row 0 rfl) Mv.one (by first | omega | (simp only [List.length_append, List.length_cons, List.length_nil, List.length_set]; omega)) (by first | omega | (simp only [List.length_append, List.length_cons, List.length_nil, List.length_set]; omega))) rfl ?_
      rintro V10 _ rfl
      refine O.p (Pu.assign rfl) rfl ?_
      refine O.nil ?_
      refine J.blk ?_
      refine J.region ?_
      refine O.p (Pu.move rfl) rfl ?_
      refine O.p (Pu.add' rfl rfl (by first | omega | (simp only [List.length_append, List.length_cons, List.length_nil, List.length_set]; omega))) rfl ?_
      refine O.p (Pu.assign rfl) rfl ?_
      refine O.nil ?_
      exact J.lp ⟨k + 1, V10, out ++ ([(⟨e5.at_, Dw.way e5, IntKind.i64.wrap (e5.on - e5.off)⟩ : Mv)])⟩ (show (k + 1) ≤ (Dw.wins s lv ti l).length ∧ (out ++ ([(⟨e5.at_, Dw.way e5, IntKind.i64.wrap (e5.on - e5.off)⟩ : Mv)])) = ((Dw.wins s lv ti l).take (k + 1)).filterMap Dw.mvO ∧ (out ++ ([(⟨e5.at_, Dw.way e5, IntKind.i64.wrap (e5.on - e5.off)⟩ : Mv)])).length ≤ (k + 1) from ⟨by omega, (by rw [Dw.mvs_next (by assumption), ← hst]; simp [*]), by first | omega | (simp only [List.length_append, List.length_singleton]; omega)⟩) (show (Dw.wins s lv ti l).length - (k + 1) < (Dw.wins s lv ti l).length - k from (by first | omega | (simp only [List.length_append, List.length_cons, List.length_nil, List.length_set]; omega))) ⟨rfl, rfl, rfl, (congrArg (fun z => some (Value.int .i64 z)) (by first | rfl | omega : ((k : Int) + 1 : Int) = ((k + 1) : Int))), trivial⟩ [2, 3] (by decide) rfl
    ·
      have p11 := of_decide_eq_false h7
      refine O.gq (t := 49) rfl rfl h7 rfl (Pu.qt (Pu.fieldAddr (off' := 2) Try.runUnderlying44 rfl Try.sizeOf3 rfl rfl rfl)) rfl ?_
      refine O.gq (t := 49) rfl rfl h7 rfl (Qt.ld rfl (Cel.var 0 rfl) (o := 0) (off := 2) rfl (Cut.one Try.isAgg3 rfl)) rfl ?_
      refine O.gq (t := 49) rfl rfl h7 rfl (Pu.qt (Pu.neq rfl rfl)) rfl ?_
      refine O.p (Pu.pickF rfl h7 rfl) rfl ?_
      refine O.nil ?_
      refine J.cond rfl (fun h12 => ?_) (fun h12 => ?_)
      ·
        have p13 := of_decide_eq_true h12
        refine J.region ?_
        refine O.p (Pu.move rfl) rfl ?_
        refine O.q (Qt.ld rfl (Cel.var 0 rfl) (o := 0) (off := 0) rfl (Cut.agg [.int .i64 e5.at_, .int .i64 (Dw.way e5), .int .i64 (IntKind.i64.wrap (e5.on - e5.off))] Try.isAgg44 Try.sizeOf44 rfl rfl)) rfl ?_
        refine O.l (Lo.buildM (s := 3) Mv.cells [(⟨e5.at_, Dw.way e5, IntKind.i64.wrap (e5.on - e5.off)⟩ : Mv)] [(0, .agg #[.int .i64 e5.at_, .int .i64 (Dw.way e5), .int .i64 (IntKind.i64.wrap (e5.on - e5.off))])] (by exact Try.runUnderlying49) (by exact Try.sizeOf44) (by exact Try.zeroValue44) rfl rfl rfl (by kernel_rfl) rfl rfl) rfl ?_
        rintro V14 _ rfl
        refine O.l (Lo.appendM (s := 3) 3 (by exact Try.underlying49) (by exact (info44).1) (by exact (info44).2.1) (by exact (info44).2.2.1) (by exact (info44).2.2.2) rfl rfl rfl rfl rfl (Src.row 0 rfl) Mv.one (by first | omega | (simp only [List.length_append, List.length_cons, List.length_nil, List.length_set]; omega)) (by first | omega | (simp only [List.length_append, List.length_cons, List.length_nil, List.length_set]; omega))) rfl ?_
        rintro V15 _ rfl
        refine O.p (Pu.assign rfl) rfl ?_
        refine O.nil ?_
        refine J.blk ?_
        refine J.region ?_
        refine O.p (Pu.move rfl) rfl ?_
        refine O.p (Pu.add' rfl rfl (by first | omega | (simp only [List.length_append, List.length_cons, List.length_nil, List.length_set]; omega))) rfl ?_
        refine O.p (Pu.assign rfl) rfl ?_
        refine O.nil ?_
        exact J.lp ⟨k + 1, V15, out ++ ([(⟨e5.at_, Dw.way e5, IntKind.i64.wrap (e5.on - e5.off)⟩ : Mv)])⟩ (show (k + 1) ≤ (Dw.wins s lv ti l).length ∧ (out ++ ([(⟨e5.at_, Dw.way e5, IntKind.i64.wrap (e5.on - e5.off)⟩ : Mv)])) = ((Dw.wins s lv ti l).take (k + 1)).filterMap Dw.mvO ∧ (out ++ ([(⟨e5.at_, Dw.way e5, IntKind.i64.wrap (e5.on - e5.off)⟩ : Mv)])).length ≤ (k + 1) from ⟨by omega, (by rw [Dw.mvs_next (by assumption), ← hst]; simp [*]), by first | omega | (simp only [List.length_append, List.length_singleton]; omega)⟩) (show (Dw.wins s lv ti l).length - (k + 1) < (Dw.wins s lv ti l).length - k from (by first | omega | (simp only [List.length_append, List.length_cons, List.length_nil, List.length_set]; omega))) ⟨rfl, rfl, rfl, (congrArg (fun z => some (Value.int .i64 z)) (by first | rfl | omega : ((k : Int) + 1 : Int) = ((k + 1) : Int))), trivial⟩ [2, 3] (by decide) rfl
      ·
        have p16 := of_decide_eq_false h12
        refine J.skip ?_
        refine J.blk ?_
        refine J.region ?_
        refine O.p (Pu.move rfl) rfl ?_
        refine O.p (Pu.add' rfl rfl (by first | omega | (simp only [List.length_append, List.length_cons, List.length_nil, List.length_set]; omega))) rfl ?_
        refine O.p (Pu.assign rfl) rfl ?_
        refine O.nil ?_
        exact J.lp ⟨k + 1, V, out⟩ (show (k + 1) ≤ (Dw.wins s lv ti l).length ∧ out = ((Dw.wins s lv ti l).take (k + 1)).filterMap Dw.mvO ∧ out.length ≤ (k + 1) from ⟨by omega, (by rw [Dw.mvs_next (by assumption), ← hst]; simp [*]), by first | omega | (simp only [List.length_append, List.length_singleton]; omega)⟩) (show (Dw.wins s lv ti l).length - (k + 1) < (Dw.wins s lv ti l).length - k from (by first | omega | (simp only [List.length_append, List.length_cons, List.length_nil, List.length_set]; omega))) ⟨rfl, rfl, rfl, (congrArg (fun z => some (Value.int .i64 z)) (by first | rfl | omega : ((k : Int) + 1 : Int) = ((k + 1) : Int))), trivial⟩ [1, 2] (by decide) rfl
  ·
    have p17 := of_decide_eq_false h3
    refine J.exit _ rfl ?_
    refine J.seq ?_
    refine J.region ?_
    refine O.p (Pu.move rfl) rfl ?_
    refine O.p (Pu.assign rfl) rfl ?_
    refine O.nil ?_
    exact J.ret (Fin.ret (rs := [.tmp 8]) rfl [_] ⟨rfl, trivial⟩ [1] (by decide) [row V 44 3 (out.map Mv.cells)] rfl (congrArg (fun o => ([row V 44 3 (o.map Mv.cells)] : List Sp)) (show out = Dw.moves s lv ti l from (by have hk2 : k = (Dw.wins s lv ti l).length := (by omega); rw [Dw.moves_eq, Dw.movesR, hst, hk2, List.take_length]))))

set_option maxRecDepth 100000 in
theorem r44_soon (wv : Value) (W : List Win) (n : Nat) (x : Kn) (hn : n < W.length) (hl : W.length ≤ 100000) : Tri Try.prog 64 #[wv, .int .i64 (n : Int), .agg #[.int .i64 x.low, .int .i64 x.high, .int .i64 x.cut, .int .i64 x.lift, .int .i64 x.floor, .int .i64 x.turn, .int .i64 x.dwell]] [rd wv 7 (W.map Win.cells)] [] (fun v L' => v = .bool (Dw.soonR W x n) ∧ L' = []) := by
  refine Tri.enter (args := [wv, .int .i64 (n : Int), .agg #[.int .i64 x.low, .int .i64 x.high, .int .i64 x.cut, .int .i64 x.lift, .int .i64 x.floor, .int .i64 x.turn, .int .i64 x.dwell]]) (body := _) 114 Try.func64 rfl Try.ntmps64 rfl ?_
  intro w0
  refine J.seq ?_
  refine J.region ?_
  refine O.l (Lo.box [.int .i64 x.low, .int .i64 x.high, .int .i64 x.cut, .int .i64 x.lift, .int .i64 x.floor, .int .i64 x.turn, .int .i64 x.dwell] rfl rfl) rfl ?_
  rintro _ _ ⟨g1, rfl, rfl⟩
  refine O.p (Pu.assign rfl) rfl ?_
  refine O.nil ?_
  refine J.seq ?_
  refine J.region ?_
  refine O.p (Pu.move rfl) rfl ?_
  refine O.p (Pu.assign rfl) rfl ?_
  refine O.nil ?_
  refine J.seq ?_
  refine J.block ?_
  refine J.loop (X := Nat) (fun ξ => ξ ≤ n ∧ ∀ i w, ξ < i → i ≤ n → W[i]? = some w → w.first = false) (fun ξ => [(0, wv), (1, .int .i64 (n : Int)), (5, .pointer (some ⟨g1, 0, none⟩)), (6, .bool false), (7, .int .i64 (ξ : Int))]) (fun ξ => [var g1 [.int .i64 x.low, .int .i64 x.high, .int .i64 x.cut, .int .i64 x.lift, .int .i64 x.floor, .int .i64 x.turn, .int .i64 x.dwell] 42]) (fun ξ => ξ) n (show n ≤ n ∧ ∀ i w, n < i → i ≤ n → W[i]? = some w → w.first = false from ⟨Nat.le_refl _, fun _ _ h1 h2 => absurd h1 (by omega)⟩) ⟨rfl, rfl, rfl, rfl, rfl, trivial⟩ [0] (by decide) rfl ?_
  rintro j hq2
  obtain ⟨hj, hnf⟩ : j ≤ n ∧ ∀ i w, j < i → i ≤ n → W[i]? = some w → w.first = false := hq2
  show J _ _ [(0, wv), (1, .int .i64 (n : Int)), (5, .pointer (some ⟨g1, 0, none⟩)), (6, .bool false), (7, .int .i64 (j : Int))] [var g1 [.int .i64 x.low, .int .i64 x.high, .int .i64 x.cut, .int .i64 x.lift, .int .i64 x.floor, .int .i64 x.turn, .int .i64 x.dwell] 42]
  refine J.seq ?_
  refine J.seq ?_
  refine J.region ?_
  refine O.p (Pu.move rfl) rfl ?_
  refine O.p (Pu.gtr rfl rfl) rfl ?_
  refine O.p (Pu.move rfl) rfl ?_
  refine by_bool (decide (0 < (j : Int))) (fun h3 => ?_) (fun h3 => ?_)
  ·
    have p4 := of_decide_eq_true h3
    refine O.gq (t := 15) rfl rfl h3 rfl (Pu.qt (Pu.move rfl)) rfl ?_
    refine O.gq (t := 15) rfl rfl h3 rfl (Pu.qt (Pu.move rfl)) rfl ?_
    obtain ⟨e5, he5⟩ : ∃ e, W[j]? = some e := ⟨_, List.getElem?_eq_getElem (by first | omega | (simp only [List.length_append, List.length_cons, List.length_nil, List.length_set]; omega))⟩
    refine O.gq (t := 15) rfl rfl h3 rfl (Qt.idxM Try.runUnderlying112 Try.sizeOf116 rfl (Src.ro 0 rfl) rfl (by first | omega | (simp only [List.length_append, List.length_cons, List.length_nil, List.length_set]; omega)) (by first | omega | (simp only [List.length_append, List.length_cons, List.length_nil, List.length_set]; omega))) rfl ?_
    refine O.gq (t := 15) rfl rfl h3 rfl (Pu.qt (Pu.fieldAddr (off' := voff wv + ((j : Int)).toNat * 7 + 6) Try.runUnderlying116 rfl Try.sizeOf4 rfl rfl rfl)) rfl ?_
    refine O.gq (t := 15) rfl rfl h3 rfl (Qt.ld rfl (Cel.eltM (Src.ro 0 rfl) he5) (o := (voff wv + j * 7)) (off := 6) (by omega) (Cut.one Try.isAgg4 rfl)) rfl ?_
    refine O.gq (t := 15) rfl rfl h3 rfl (Pu.qt (Pu.not rfl)) rfl ?_
    refine O.p (Pu.pickT rfl h3 rfl) rfl ?_
    refine O.nil ?_
    refine J.cond rfl (fun h6 => ?_) (fun h6 => ?_)
    ·
      have h7 : e5.first = false := not_flip h6
      refine J.skip ?_
      refine J.block ?_
      refine J.region ?_
      refine O.p (Pu.move rfl) rfl ?_
      refine O.p (Pu.sub' rfl rfl (by first | omega | (simp only [List.length_append, List.length_cons, List.length_nil, List.length_set]; omega))) rfl ?_
      refine O.p (Pu.assign rfl) rfl ?_
      refine O.nil ?_
      refine J.blk ?_
      exact J.lp (j - 1 : Nat) (show (j - 1 : Nat) ≤ n ∧ ∀ i w, (j - 1 : Nat) < i → i ≤ n → W[i]? = some w → w.first = false from ⟨by omega, Dw.first_next hnf (by assumption) (by assumption)⟩) (show (j - 1 : Nat) < j from (by first | omega | (simp only [List.length_append, List.length_cons, List.length_nil, List.length_set]; omega))) ⟨rfl, rfl, rfl, rfl, (congrArg (fun z => some (Value.int .i64 z)) (by first | rfl | omega : ((j : Int) - 1 : Int) = ((j - 1 : Nat) : Int))), trivial⟩ [0] (by decide) rfl
    ·
      have h8 : e5.first = true := not_flip h6
      refine J.exit _ rfl ?_
      refine J.seq ?_
      refine J.region ?_
      refine O.p (Pu.assign rfl) rfl ?_
      refine O.p (Pu.assign rfl) rfl ?_
      refine O.p (Pu.assign rfl) rfl ?_
      refine O.nil ?_
      refine J.seq ?_
      refine J.seq ?_
      refine J.region ?_
      refine O.p (Pu.move rfl) rfl ?_
      refine O.p (Pu.assign rfl) rfl ?_
      refine O.nil ?_
      refine J.block ?_
      refine J.loop (X := Nat × Int × Int × Int) (fun ξ => j ≤ ξ.1 ∧ ξ.1 ≤ n ∧ (ξ.2.1, ξ.2.2.1, ξ.2.2.2) = Dw.rB W ξ.1) (fun ξ => [(0, wv), (1, .int .i64 (n : Int)), (5, .pointer (some ⟨g1, 0, none⟩)), (6, .bool false), (8, .int .i64 ξ.2.1), (9, .int .i64 ξ.2.2.1), (10, .int .i64 ξ.2.2.2), (11, .int .i64 (ξ.1 : Int))]) (fun ξ => [var g1 [.int .i64 x.low, .int .i64 x.high, .int .i64 x.cut, .int .i64 x.lift, .int .i64 x.floor, .int .i64 x.turn, .int .i64 x.dwell] 42]) (fun ξ => n - ξ.1) ⟨j, 0, -1, -1⟩ (show j ≤ j ∧ j ≤ n ∧ (0, (-1), (-1)) = Dw.rB W j from ⟨by omega, by omega, (Dw.rB_start (by first | (left; omega) | (right; exact ⟨_, by assumption, by assumption⟩))).symm⟩) ⟨rfl, rfl, rfl, rfl, rfl, rfl, rfl, rfl, trivial⟩ [0] (by decide) rfl ?_
      rintro ⟨i, la, fi, di⟩ hq9
      obtain ⟨hji, hi, hst⟩ : j ≤ i ∧ i ≤ n ∧ (la, fi, di) = Dw.rB W i := hq9
      show J _ _ [(0, wv), (1, .int .i64 (n : Int)), (5, .pointer (some ⟨g1, 0, none⟩)), (6, .bool false), (8, .int .i64 la), (9, .int .i64 fi), (10, .int .i64 di), (11, .int .i64 (i : Int))] [var g1 [.int .i64 x.low, .int .i64 x.high, .int .i64 x.cut, .int .i64 x.lift, .int .i64 x.floor, .int .i64 x.turn, .int .i64 x.dwell] 42]
      refine J.seq ?_
      refine J.seq ?_
      refine J.region ?_
      refine O.p (Pu.move rfl) rfl ?_
      refine O.p (Pu.move rfl) rfl ?_
      refine O.p (Pu.lss rfl rfl) rfl ?_
      refine O.nil ?_
      refine J.cond rfl (fun h10 => ?_) (fun h10 => ?_)
      ·
        have p11 := of_decide_eq_true h10
        refine J.skip ?_
        refine J.seq ?_
        refine J.block ?_
        refine J.seq ?_
        refine J.seq ?_
        refine J.region ?_
        refine O.p (Pu.move rfl) rfl ?_
        refine O.p (Pu.move rfl) rfl ?_
        obtain ⟨e12, he12⟩ : ∃ e, W[i]? = some e := ⟨_, List.getElem?_eq_getElem (by first | omega | (simp only [List.length_append, List.length_cons, List.length_nil, List.length_set]; omega))⟩
        refine O.q (Qt.idxM Try.runUnderlying112 Try.sizeOf116 rfl (Src.ro 0 rfl) rfl (by first | omega | (simp only [List.length_append, List.length_cons, List.length_nil, List.length_set]; omega)) (by first | omega | (simp only [List.length_append, List.length_cons, List.length_nil, List.length_set]; omega))) rfl ?_
        refine O.q (Qt.ld rfl (Cel.eltM (Src.ro 0 rfl) he12) (o := (voff wv + i * 7)) (off := 0) (by omega) (Cut.agg [.int .i64 e12.at_, .int .i64 e12.no, .int .i64 e12.was, .int .i64 e12.is_, .int .i64 e12.off, .int .i64 e12.on, .bool e12.first] Try.isAgg116 Try.sizeOf116 rfl rfl)) rfl ?_
        refine O.l (Lo.call [.agg #[.int .i64 e12.at_, .int .i64 e12.no, .int .i64 e12.was, .int .i64 e12.is_, .int .i64 e12.off, .int .i64 e12.on, .bool e12.first]] (by exact Try.call65) rfl (r44_way e12) [] [0] (by decide) rfl _ rfl RoOk.nil) rfl ?_
        rintro _ _ ⟨_, ⟨rfl, rfl⟩, rfl⟩
        refine O.p (Pu.neq rfl rfl) rfl ?_
        refine O.p (Pu.move rfl) rfl ?_
        refine by_bool (decide ((Dw.way e12) ≠ 0)) (fun h14 => ?_) (fun h14 => ?_)
        ·
          have p15 := of_decide_eq_true h14
          refine O.gq (t := 37) rfl rfl h14 rfl (Pu.qt (Pu.move rfl)) rfl ?_
          refine O.gq (t := 37) rfl rfl h14 rfl (Pu.qt (Pu.move rfl)) rfl ?_
          refine O.gq (t := 37) rfl rfl h14 rfl (Qt.idxM Try.runUnderlying112 Try.sizeOf116 rfl (Src.ro 0 rfl) rfl (by first | omega | (simp only [List.length_append, List.length_cons, List.length_nil, List.length_set]; omega)) (by first | omega | (simp only [List.length_append, List.length_cons, List.length_nil, List.length_set]; omega))) rfl ?_
          refine O.gq (t := 37) rfl rfl h14 rfl (Qt.ld rfl (Cel.eltM (Src.ro 0 rfl) he12) (o := (voff wv + i * 7)) (off := 0) (by omega) (Cut.agg [.int .i64 e12.at_, .int .i64 e12.no, .int .i64 e12.was, .int .i64 e12.is_, .int .i64 e12.off, .int .i64 e12.on, .bool e12.first] Try.isAgg116 Try.sizeOf116 rfl rfl)) rfl ?_
          refine O.gl (t := 37) rfl rfl h14 rfl (Lo.call [.agg #[.int .i64 e12.at_, .int .i64 e12.no, .int .i64 e12.was, .int .i64 e12.is_, .int .i64 e12.off, .int .i64 e12.on, .bool e12.first]] (by exact Try.call65) rfl (r44_way e12) [] [0] (by decide) rfl _ rfl RoOk.nil) rfl ?_
          rintro _ _ ⟨_, ⟨rfl, rfl⟩, rfl⟩
          refine O.gq (t := 37) rfl rfl h14 rfl (Pu.qt (Pu.move rfl)) rfl ?_
          refine O.gq (t := 37) rfl rfl h14 rfl (Pu.qt (Pu.neq rfl rfl)) rfl ?_
          refine O.p (Pu.pickT rfl h14 rfl) rfl ?_
          refine O.nil ?_
          refine J.cond rfl (fun h17 => ?_) (fun h17 => ?_)
          ·
            have p18 := of_decide_eq_true h17
            refine J.seq ?_
            refine J.region ?_
            refine O.p (Pu.move rfl) rfl ?_
            refine O.p (Pu.move rfl) rfl ?_
            refine O.q (Qt.idxM Try.runUnderlying112 Try.sizeOf116 rfl (Src.ro 0 rfl) rfl (by first | omega | (simp only [List.length_append, List.length_cons, List.length_nil, List.length_set]; omega)) (by first | omega | (simp only [List.length_append, List.length_cons, List.length_nil, List.length_set]; omega))) rfl ?_
            refine O.q (Qt.ld rfl (Cel.eltM (Src.ro 0 rfl) he12) (o := (voff wv + i * 7)) (off := 0) (by omega) (Cut.agg [.int .i64 e12.at_, .int .i64 e12.no, .int .i64 e12.was, .int .i64 e12.is_, .int .i64 e12.off, .int .i64 e12.on, .bool e12.first] Try.isAgg116 Try.sizeOf116 rfl rfl)) rfl ?_
            refine O.l (Lo.call [.agg #[.int .i64 e12.at_, .int .i64 e12.no, .int .i64 e12.was, .int .i64 e12.is_, .int .i64 e12.off, .int .i64 e12.on, .bool e12.first]] (by exact Try.call65) rfl (r44_way e12) [] [0] (by decide) rfl _ rfl RoOk.nil) rfl ?_
            rintro _ _ ⟨_, ⟨rfl, rfl⟩, rfl⟩
            refine O.p (Pu.assign rfl) rfl ?_
            refine O.nil ?_
            refine J.region ?_
            refine O.p (Pu.move rfl) rfl ?_
            refine O.p (Pu.assign rfl) rfl ?_
            refine O.nil ?_
            refine J.seq ?_
            refine J.drawStill Try.mixed (by kernel_rfl) ?_
            refine S.p (Pu.move rfl) rfl ?_
            refine S.p (Pu.move rfl) rfl ?_
            refine S.q (Qt.idxM Try.runUnderlying112 Try.sizeOf116 rfl (Src.ro 0 rfl) rfl (by first | omega | (simp only [List.length_append, List.length_cons, List.length_nil, List.length_set]; omega)) (by first | omega | (simp only [List.length_append, List.length_cons, List.length_nil, List.length_set]; omega))) rfl ?_
            refine S.p (Pu.fieldAddr (off' := voff wv + ((i : Int)).toNat * 7 + 5) Try.runUnderlying116 rfl Try.sizeOf3 rfl rfl rfl) rfl ?_
            refine S.q (Qt.ld rfl (Cel.eltM (Src.ro 0 rfl) he12) (o := (voff wv + i * 7)) (off := 5) (by omega) (Cut.one Try.isAgg3 rfl)) rfl ?_
            refine S.p (Pu.move rfl) rfl ?_
            refine S.p (Pu.move rfl) rfl ?_
            refine S.q (Qt.idxM Try.runUnderlying112 Try.sizeOf116 rfl (Src.ro 0 rfl) rfl (by first | omega | (simp only [List.length_append, List.length_cons, List.length_nil, List.length_set]; omega)) (by first | omega | (simp only [List.length_append, List.length_cons, List.length_nil, List.length_set]; omega))) rfl ?_
            refine S.p (Pu.fieldAddr (off' := voff wv + ((i : Int)).toNat * 7 + 4) Try.runUnderlying116 rfl Try.sizeOf3 rfl rfl rfl) rfl ?_
            refine S.q (Qt.ld rfl (Cel.eltM (Src.ro 0 rfl) he12) (o := (voff wv + i * 7)) (off := 4) (by omega) (Cut.one Try.isAgg3 rfl)) rfl ?_
            refine S.p (Pu.neq rfl rfl) rfl ?_
            refine S.endJ ?_
            refine J.cond rfl (fun h20 => ?_) (fun h20 => ?_)
            ·
              have p21 := of_decide_eq_true h20
              refine J.region ?_
              refine O.p (Pu.move rfl) rfl ?_
              refine O.p (Pu.assign rfl) rfl ?_
              refine O.nil ?_
              refine J.blk ?_
              refine J.region ?_
              refine O.p (Pu.move rfl) rfl ?_
              refine O.p (Pu.add' rfl rfl (by first | omega | (simp only [List.length_append, List.length_cons, List.length_nil, List.length_set]; omega))) rfl ?_
              refine O.p (Pu.assign rfl) rfl ?_
              refine O.nil ?_
              exact J.lp ⟨i + 1, Dw.way e12, (i : Int), (i : Int)⟩ (show j ≤ (i + 1) ∧ (i + 1) ≤ n ∧ ((Dw.way e12), (i : Int), (i : Int)) = Dw.rB W (i + 1) from ⟨by omega, by omega, (by obtain ⟨w', hw'⟩ : ∃ w', W[i + 1]? = some w' := ⟨_, List.getElem?_eq_getElem (by omega)⟩; rw [Dw.rB_next (by assumption) hw' (hnf _ _ (by omega) (by omega) hw'), ← hst]; simp [Dw.rN, *])⟩) (show n - (i + 1) < n - i from (by first | omega | (simp only [List.length_append, List.length_cons, List.length_nil, List.length_set]; omega))) ⟨rfl, rfl, rfl, rfl, rfl, rfl, rfl, (congrArg (fun z => some (Value.int .i64 z)) (by first | rfl | omega : ((i : Int) + 1 : Int) = ((i + 1) : Int))), trivial⟩ [0] (by decide) rfl
            ·
              have p22 := of_decide_eq_false h20
              refine J.skip ?_
              refine J.blk ?_
              refine J.region ?_
              refine O.p (Pu.move rfl) rfl ?_
              refine O.p (Pu.add' rfl rfl (by first | omega | (simp only [List.length_append, List.length_cons, List.length_nil, List.length_set]; omega))) rfl ?_
              refine O.p (Pu.assign rfl) rfl ?_
              refine O.nil ?_
              exact J.lp ⟨i + 1, Dw.way e12, (i : Int), di⟩ (show j ≤ (i + 1) ∧ (i + 1) ≤ n ∧ ((Dw.way e12), (i : Int), di) = Dw.rB W (i + 1) from ⟨by omega, by omega, (by obtain ⟨w', hw'⟩ : ∃ w', W[i + 1]? = some w' := ⟨_, List.getElem?_eq_getElem (by omega)⟩; rw [Dw.rB_next (by assumption) hw' (hnf _ _ (by omega) (by omega) hw'), ← hst]; simp [Dw.rN, *])⟩) (show n - (i + 1) < n - i from (by first | omega | (simp only [List.length_append, List.length_cons, List.length_nil, List.length_set]; omega))) ⟨rfl, rfl, rfl, rfl, rfl, rfl, rfl, (congrArg (fun z => some (Value.int .i64 z)) (by first | rfl | omega : ((i : Int) + 1 : Int) = ((i + 1) : Int))), trivial⟩ [0] (by decide) rfl
          ·
            have p23 := of_decide_eq_false h17
            refine J.skip ?_
            refine J.seq ?_
            refine J.drawStill Try.mixed (by kernel_rfl) ?_
            refine S.p (Pu.move rfl) rfl ?_
            refine S.p (Pu.move rfl) rfl ?_
            refine S.q (Qt.idxM Try.runUnderlying112 Try.sizeOf116 rfl (Src.ro 0 rfl) rfl (by first | omega | (simp only [List.length_append, List.length_cons, List.length_nil, List.length_set]; omega)) (by first | omega | (simp only [List.length_append, List.length_cons, List.length_nil, List.length_set]; omega))) rfl ?_
            refine S.p (Pu.fieldAddr (off' := voff wv + ((i : Int)).toNat * 7 + 5) Try.runUnderlying116 rfl Try.sizeOf3 rfl rfl rfl) rfl ?_
            refine S.q (Qt.ld rfl (Cel.eltM (Src.ro 0 rfl) he12) (o := (voff wv + i * 7)) (off := 5) (by omega) (Cut.one Try.isAgg3 rfl)) rfl ?_
            refine S.p (Pu.move rfl) rfl ?_
            refine S.p (Pu.move rfl) rfl ?_
            refine S.q (Qt.idxM Try.runUnderlying112 Try.sizeOf116 rfl (Src.ro 0 rfl) rfl (by first | omega | (simp only [List.length_append, List.length_cons, List.length_nil, List.length_set]; omega)) (by first | omega | (simp only [List.length_append, List.length_cons, List.length_nil, List.length_set]; omega))) rfl ?_
            refine S.p (Pu.fieldAddr (off' := voff wv + ((i : Int)).toNat * 7 + 4) Try.runUnderlying116 rfl Try.sizeOf3 rfl rfl rfl) rfl ?_
            refine S.q (Qt.ld rfl (Cel.eltM (Src.ro 0 rfl) he12) (o := (voff wv + i * 7)) (off := 4) (by omega) (Cut.one Try.isAgg3 rfl)) rfl ?_
            refine S.p (Pu.neq rfl rfl) rfl ?_
            refine S.endJ ?_
            refine J.cond rfl (fun h24 => ?_) (fun h24 => ?_)
            ·
              have p25 := of_decide_eq_true h24
              refine J.region ?_
              refine O.p (Pu.move rfl) rfl ?_
              refine O.p (Pu.assign rfl) rfl ?_
              refine O.nil ?_
              refine J.blk ?_
              refine J.region ?_
              refine O.p (Pu.move rfl) rfl ?_
              refine O.p (Pu.add' rfl rfl (by first | omega | (simp only [List.length_append, List.length_cons, List.length_nil, List.length_set]; omega))) rfl ?_
              refine O.p (Pu.assign rfl) rfl ?_
              refine O.nil ?_
              exact J.lp ⟨i + 1, la, fi, (i : Int)⟩ (show j ≤ (i + 1) ∧ (i + 1) ≤ n ∧ (la, fi, (i : Int)) = Dw.rB W (i + 1) from ⟨by omega, by omega, (by obtain ⟨w', hw'⟩ : ∃ w', W[i + 1]? = some w' := ⟨_, List.getElem?_eq_getElem (by omega)⟩; rw [Dw.rB_next (by assumption) hw' (hnf _ _ (by omega) (by omega) hw'), ← hst]; simp [Dw.rN, *])⟩) (show n - (i + 1) < n - i from (by first | omega | (simp only [List.length_append, List.length_cons, List.length_nil, List.length_set]; omega))) ⟨rfl, rfl, rfl, rfl, rfl, rfl, rfl, (congrArg (fun z => some (Value.int .i64 z)) (by first | rfl | omega : ((i : Int) + 1 : Int) = ((i + 1) : Int))), trivial⟩ [0] (by decide) rfl
            ·
              have p26 := of_decide_eq_false h24
              refine J.skip ?_
              refine J.blk ?_
              refine J.region ?_
              refine O.p (Pu.move rfl) rfl ?_
              refine O.p (Pu.add' rfl rfl (by first | omega | (simp only [List.length_append, List.length_cons, List.length_nil, List.length_set]; omega))) rfl ?_
              refine O.p (Pu.assign rfl) rfl ?_
              refine O.nil ?_
              exact J.lp ⟨i + 1, la, fi, di⟩ (show j ≤ (i + 1) ∧ (i + 1) ≤ n ∧ (la, fi, di) = Dw.rB W (i + 1) from ⟨by omega, by omega, (by obtain ⟨w', hw'⟩ : ∃ w', W[i + 1]? = some w' := ⟨_, List.getElem?_eq_getElem (by omega)⟩; rw [Dw.rB_next (by assumption) hw' (hnf _ _ (by omega) (by omega) hw'), ← hst]; simp [Dw.rN, *])⟩) (show n - (i + 1) < n - i from (by first | omega | (simp only [List.length_append, List.length_cons, List.length_nil, List.length_set]; omega))) ⟨rfl, rfl, rfl, rfl, rfl, rfl, rfl, (congrArg (fun z => some (Value.int .i64 z)) (by first | rfl | omega : ((i : Int) + 1 : Int) = ((i + 1) : Int))), trivial⟩ [0] (by decide) rfl
        ·
          have p27 := of_decide_eq_false h14
          refine O.gskip (t := 37) rfl rfl (no_bool (by rw [h14]; decide)) rfl rfl ?_
          refine O.gskip (t := 37) rfl rfl (no_bool (by rw [h14]; decide)) rfl rfl ?_
          refine O.gskip (t := 37) rfl rfl (no_bool (by rw [h14]; decide)) rfl rfl ?_
          refine O.gskip (t := 37) rfl rfl (no_bool (by rw [h14]; decide)) rfl rfl ?_
          refine O.gskip (t := 37) rfl rfl (no_bool (by rw [h14]; decide)) rfl rfl ?_
          refine O.gskip (t := 37) rfl rfl (no_bool (by rw [h14]; decide)) rfl rfl ?_
          refine O.gskip (t := 37) rfl rfl (no_bool (by rw [h14]; decide)) rfl rfl ?_
          refine O.p (Pu.pickF rfl h14 rfl) rfl ?_
          refine O.nil ?_
          refine J.condF rfl rfl ?_
          refine J.skip ?_
          refine J.seq ?_
          refine J.drawStill Try.mixed (by kernel_rfl) ?_
          refine S.p (Pu.move rfl) rfl ?_
          refine S.p (Pu.move rfl) rfl ?_
          refine S.q (Qt.idxM Try.runUnderlying112 Try.sizeOf116 rfl (Src.ro 0 rfl) rfl (by first | omega | (simp only [List.length_append, List.length_cons, List.length_nil, List.length_set]; omega)) (by first | omega | (simp only [List.length_append, List.length_cons, List.length_nil, List.length_set]; omega))) rfl ?_
          refine S.p (Pu.fieldAddr (off' := voff wv + ((i : Int)).toNat * 7 + 5) Try.runUnderlying116 rfl Try.sizeOf3 rfl rfl rfl) rfl ?_
          refine S.q (Qt.ld rfl (Cel.eltM (Src.ro 0 rfl) he12) (o := (voff wv + i * 7)) (off := 5) (by omega) (Cut.one Try.isAgg3 rfl)) rfl ?_
          refine S.p (Pu.move rfl) rfl ?_
          refine S.p (Pu.move rfl) rfl ?_
          refine S.q (Qt.idxM Try.runUnderlying112 Try.sizeOf116 rfl (Src.ro 0 rfl) rfl (by first | omega | (simp only [List.length_append, List.length_cons, List.length_nil, List.length_set]; omega)) (by first | omega | (simp only [List.length_append, List.length_cons, List.length_nil, List.length_set]; omega))) rfl ?_
          refine S.p (Pu.fieldAddr (off' := voff wv + ((i : Int)).toNat * 7 + 4) Try.runUnderlying116 rfl Try.sizeOf3 rfl rfl rfl) rfl ?_
          refine S.q (Qt.ld rfl (Cel.eltM (Src.ro 0 rfl) he12) (o := (voff wv + i * 7)) (off := 4) (by omega) (Cut.one Try.isAgg3 rfl)) rfl ?_
          refine S.p (Pu.neq rfl rfl) rfl ?_
          refine S.endJ ?_
          refine J.cond rfl (fun h28 => ?_) (fun h28 => ?_)
          ·
            have p29 := of_decide_eq_true h28
            refine J.region ?_
            refine O.p (Pu.move rfl) rfl ?_
            refine O.p (Pu.assign rfl) rfl ?_
            refine O.nil ?_
            refine J.blk ?_
            refine J.region ?_
            refine O.p (Pu.move rfl) rfl ?_
            refine O.p (Pu.add' rfl rfl (by first | omega | (simp only [List.length_append, List.length_cons, List.length_nil, List.length_set]; omega))) rfl ?_
            refine O.p (Pu.assign rfl) rfl ?_
            refine O.nil ?_
            exact J.lp ⟨i + 1, la, fi, (i : Int)⟩ (show j ≤ (i + 1) ∧ (i + 1) ≤ n ∧ (la, fi, (i : Int)) = Dw.rB W (i + 1) from ⟨by omega, by omega, (by obtain ⟨w', hw'⟩ : ∃ w', W[i + 1]? = some w' := ⟨_, List.getElem?_eq_getElem (by omega)⟩; rw [Dw.rB_next (by assumption) hw' (hnf _ _ (by omega) (by omega) hw'), ← hst]; simp [Dw.rN, *])⟩) (show n - (i + 1) < n - i from (by first | omega | (simp only [List.length_append, List.length_cons, List.length_nil, List.length_set]; omega))) ⟨rfl, rfl, rfl, rfl, rfl, rfl, rfl, (congrArg (fun z => some (Value.int .i64 z)) (by first | rfl | omega : ((i : Int) + 1 : Int) = ((i + 1) : Int))), trivial⟩ [0] (by decide) rfl
          ·
            have p30 := of_decide_eq_false h28
            refine J.skip ?_
            refine J.blk ?_
            refine J.region ?_
            refine O.p (Pu.move rfl) rfl ?_
            refine O.p (Pu.add' rfl rfl (by first | omega | (simp only [List.length_append, List.length_cons, List.length_nil, List.length_set]; omega))) rfl ?_
            refine O.p (Pu.assign rfl) rfl ?_
            refine O.nil ?_
            exact J.lp ⟨i + 1, la, fi, di⟩ (show j ≤ (i + 1) ∧ (i + 1) ≤ n ∧ (la, fi, di) = Dw.rB W (i + 1) from ⟨by omega, by omega, (by obtain ⟨w', hw'⟩ : ∃ w', W[i + 1]? = some w' := ⟨_, List.getElem?_eq_getElem (by omega)⟩; rw [Dw.rB_next (by assumption) hw' (hnf _ _ (by omega) (by omega) hw'), ← hst]; simp [Dw.rN, *])⟩) (show n - (i + 1) < n - i from (by first | omega | (simp only [List.length_append, List.length_cons, List.length_nil, List.length_set]; omega))) ⟨rfl, rfl, rfl, rfl, rfl, rfl, rfl, (congrArg (fun z => some (Value.int .i64 z)) (by first | rfl | omega : ((i : Int) + 1 : Int) = ((i + 1) : Int))), trivial⟩ [0] (by decide) rfl
      ·
        have p31 := of_decide_eq_false h10
        refine J.exit _ rfl ?_
        refine J.seq ?_
        refine J.seq ?_
        refine J.region ?_
        refine O.p (Pu.move rfl) rfl ?_
        refine O.p (Pu.move rfl) rfl ?_
        obtain ⟨e32, he32⟩ : ∃ e, W[n]? = some e := ⟨_, List.getElem?_eq_getElem (by first | omega | (simp only [List.length_append, List.length_cons, List.length_nil, List.length_set]; omega))⟩
        refine O.q (Qt.idxM Try.runUnderlying112 Try.sizeOf116 rfl (Src.ro 0 rfl) rfl (by first | omega | (simp only [List.length_append, List.length_cons, List.length_nil, List.length_set]; omega)) (by first | omega | (simp only [List.length_append, List.length_cons, List.length_nil, List.length_set]; omega))) rfl ?_
        refine O.q (Qt.ld rfl (Cel.eltM (Src.ro 0 rfl) he32) (o := (voff wv + n * 7)) (off := 0) (by omega) (Cut.agg [.int .i64 e32.at_, .int .i64 e32.no, .int .i64 e32.was, .int .i64 e32.is_, .int .i64 e32.off, .int .i64 e32.on, .bool e32.first] Try.isAgg116 Try.sizeOf116 rfl rfl)) rfl ?_
        refine O.l (Lo.call [.agg #[.int .i64 e32.at_, .int .i64 e32.no, .int .i64 e32.was, .int .i64 e32.is_, .int .i64 e32.off, .int .i64 e32.on, .bool e32.first]] (by exact Try.call65) rfl (r44_way e32) [] [0] (by decide) rfl _ rfl RoOk.nil) rfl ?_
        rintro _ _ ⟨_, ⟨rfl, rfl⟩, rfl⟩
        refine O.p (Pu.neq rfl rfl) rfl ?_
        refine O.p (Pu.move rfl) rfl ?_
        refine by_bool (decide ((Dw.way e32) ≠ 0)) (fun h34 => ?_) (fun h34 => ?_)
        ·
          have p35 := of_decide_eq_true h34
          refine O.gq (t := 70) rfl rfl h34 rfl (Pu.qt (Pu.move rfl)) rfl ?_
          refine O.gq (t := 70) rfl rfl h34 rfl (Pu.qt (Pu.neq rfl rfl)) rfl ?_
          refine O.p (Pu.pickT rfl h34 rfl) rfl ?_
          refine O.p (Pu.move rfl) rfl ?_
          refine by_bool (decide (la ≠ 0)) (fun h36 => ?_) (fun h36 => ?_)
          ·
            have p37 := of_decide_eq_true h36
            refine O.gq (t := 74) rfl rfl h36 rfl (Pu.qt (Pu.move rfl)) rfl ?_
            refine O.gq (t := 74) rfl rfl h36 rfl (Pu.qt (Pu.move rfl)) rfl ?_
            refine O.gq (t := 74) rfl rfl h36 rfl (Qt.idxM Try.runUnderlying112 Try.sizeOf116 rfl (Src.ro 0 rfl) rfl (by first | omega | (simp only [List.length_append, List.length_cons, List.length_nil, List.length_set]; omega)) (by first | omega | (simp only [List.length_append, List.length_cons, List.length_nil, List.length_set]; omega))) rfl ?_
            refine O.gq (t := 74) rfl rfl h36 rfl (Qt.ld rfl (Cel.eltM (Src.ro 0 rfl) he32) (o := (voff wv + n * 7)) (off := 0) (by omega) (Cut.agg [.int .i64 e32.at_, .int .i64 e32.no, .int .i64 e32.was, .int .i64 e32.is_, .int .i64 e32.off, .int .i64 e32.on, .bool e32.first] Try.isAgg116 Try.sizeOf116 rfl rfl)) rfl ?_
            refine O.gl (t := 74) rfl rfl h36 rfl (Lo.call [.agg #[.int .i64 e32.at_, .int .i64 e32.no, .int .i64 e32.was, .int .i64 e32.is_, .int .i64 e32.off, .int .i64 e32.on, .bool e32.first]] (by exact Try.call65) rfl (r44_way e32) [] [0] (by decide) rfl _ rfl RoOk.nil) rfl ?_
            rintro _ _ ⟨_, ⟨rfl, rfl⟩, rfl⟩
            refine O.gq (t := 74) rfl rfl h36 rfl (Pu.qt (Pu.move rfl)) rfl ?_
            refine O.gq (t := 74) rfl rfl h36 rfl (Pu.qt (Pu.neq rfl rfl)) rfl ?_
            refine O.p (Pu.pickT rfl h36 rfl) rfl ?_
            refine O.p (Pu.move rfl) rfl ?_
            refine by_bool (decide ((Dw.way e32) ≠ la)) (fun h39 => ?_) (fun h39 => ?_)
            ·
              have p40 := of_decide_eq_true h39
              refine O.gq (t := 83) rfl rfl h39 rfl (Pu.qt (Pu.move rfl)) rfl ?_
              refine O.gq (t := 83) rfl rfl h39 rfl (Pu.qt (Pu.move rfl)) rfl ?_
              refine O.gq (t := 83) rfl rfl h39 rfl (Pu.qt (Pu.sub rfl rfl)) rfl ?_
              refine O.gq (t := 83) rfl rfl h39 rfl (Pu.qt (Pu.fieldAddr (off' := 5) Try.runUnderlying42 rfl Try.sizeOf3 rfl rfl rfl)) rfl ?_
              refine O.gq (t := 83) rfl rfl h39 rfl (Qt.ld rfl (Cel.var 0 rfl) (o := 0) (off := 5) rfl (Cut.one Try.isAgg3 rfl)) rfl ?_
              refine O.gq (t := 83) rfl rfl h39 rfl (Pu.qt (Pu.lss rfl rfl)) rfl ?_
              refine O.p (Pu.pickT rfl h39 rfl) rfl ?_
              refine O.nil ?_
              refine J.cond rfl (fun h41 => ?_) (fun h41 => ?_)
              ·
                have p42 := of_decide_eq_true h41
                refine J.seq ?_
                refine J.region ?_
                refine O.p (Pu.assign rfl) rfl ?_
                refine O.nil ?_
                exact J.ret (Fin.ret (rs := [.tmp 6]) rfl [_] ⟨rfl, trivial⟩ [] (by decide) [] rfl ⟨(by have hk2 : i = n := (by omega); subst hk2; rw [Dw.soonR_at (by assumption), ← hst]; simp [vOf, Dw.soonW, *]), rfl⟩)
              ·
                have p43 := of_decide_eq_false h41
                refine J.skip ?_
                refine J.seq ?_
                refine J.drawStill Try.mixed (by kernel_rfl) ?_
                refine S.p (Pu.move rfl) rfl ?_
                refine S.p (Pu.move rfl) rfl ?_
                refine S.q (Qt.idxM Try.runUnderlying112 Try.sizeOf116 rfl (Src.ro 0 rfl) rfl (by first | omega | (simp only [List.length_append, List.length_cons, List.length_nil, List.length_set]; omega)) (by first | omega | (simp only [List.length_append, List.length_cons, List.length_nil, List.length_set]; omega))) rfl ?_
                refine S.p (Pu.fieldAddr (off' := voff wv + ((n : Int)).toNat * 7 + 5) Try.runUnderlying116 rfl Try.sizeOf3 rfl rfl rfl) rfl ?_
                refine S.q (Qt.ld rfl (Cel.eltM (Src.ro 0 rfl) he32) (o := (voff wv + n * 7)) (off := 5) (by omega) (Cut.one Try.isAgg3 rfl)) rfl ?_
                refine S.p (Pu.move rfl) rfl ?_
                refine S.p (Pu.move rfl) rfl ?_
                refine S.q (Qt.idxM Try.runUnderlying112 Try.sizeOf116 rfl (Src.ro 0 rfl) rfl (by first | omega | (simp only [List.length_append, List.length_cons, List.length_nil, List.length_set]; omega)) (by first | omega | (simp only [List.length_append, List.length_cons, List.length_nil, List.length_set]; omega))) rfl ?_
                refine S.p (Pu.fieldAddr (off' := voff wv + ((n : Int)).toNat * 7 + 4) Try.runUnderlying116 rfl Try.sizeOf3 rfl rfl rfl) rfl ?_
                refine S.q (Qt.ld rfl (Cel.eltM (Src.ro 0 rfl) he32) (o := (voff wv + n * 7)) (off := 4) (by omega) (Cut.one Try.isAgg3 rfl)) rfl ?_
                refine S.p (Pu.neq rfl rfl) rfl ?_
                refine S.p (Pu.move rfl) rfl ?_
                refine by_bool (decide (e32.on ≠ e32.off)) (fun h44 => ?_) (fun h44 => ?_)
                ·
                  have p45 := of_decide_eq_true h44
                  refine S.gq (t := 102) rfl rfl h44 rfl (Pu.qt (Pu.move rfl)) rfl ?_
                  refine S.gq (t := 102) rfl rfl h44 rfl (Pu.qt (Pu.geq rfl rfl)) rfl ?_
                  refine S.p (Pu.pickT rfl h44 rfl) rfl ?_
                  refine S.p (Pu.move rfl) rfl ?_
                  refine by_bool (decide (0 ≤ di)) (fun h46 => ?_) (fun h46 => ?_)
                  ·
                    have p47 := of_decide_eq_true h46
                    refine S.gq (t := 106) rfl rfl h46 rfl (Pu.qt (Pu.move rfl)) rfl ?_
                    refine S.gq (t := 106) rfl rfl h46 rfl (Pu.qt (Pu.move rfl)) rfl ?_
                    refine S.gq (t := 106) rfl rfl h46 rfl (Pu.qt (Pu.sub rfl rfl)) rfl ?_
                    refine S.gq (t := 106) rfl rfl h46 rfl (Pu.qt (Pu.fieldAddr (off' := 6) Try.runUnderlying42 rfl Try.sizeOf3 rfl rfl rfl)) rfl ?_
                    refine S.gq (t := 106) rfl rfl h46 rfl (Qt.ld rfl (Cel.var 0 rfl) (o := 0) (off := 6) rfl (Cut.one Try.isAgg3 rfl)) rfl ?_
                    refine S.gq (t := 106) rfl rfl h46 rfl (Pu.qt (Pu.lss rfl rfl)) rfl ?_
                    refine S.p (Pu.pickT rfl h46 rfl) rfl ?_
                    refine S.p (Pu.assign rfl) rfl ?_
                    refine S.endJ ?_
                    exact J.ret (Fin.ret (rs := [.tmp 6]) rfl [_] ⟨rfl, trivial⟩ [] (by decide) [] rfl ⟨(by have hk2 : i = n := (by omega); subst hk2; rw [Dw.soonR_at (by assumption), ← hst]; simp [vOf, Dw.soonW, *]), rfl⟩)
                  ·
                    have p48 := of_decide_eq_false h46
                    refine S.gskip (t := 106) rfl rfl (no_bool (by rw [h46]; decide)) rfl rfl ?_
                    refine S.gskip (t := 106) rfl rfl (no_bool (by rw [h46]; decide)) rfl rfl ?_
                    refine S.gskip (t := 106) rfl rfl (no_bool (by rw [h46]; decide)) rfl rfl ?_
                    refine S.gskip (t := 106) rfl rfl (no_bool (by rw [h46]; decide)) rfl rfl ?_
                    refine S.gskip (t := 106) rfl rfl (no_bool (by rw [h46]; decide)) rfl rfl ?_
                    refine S.gskip (t := 106) rfl rfl (no_bool (by rw [h46]; decide)) rfl rfl ?_
                    refine S.p (Pu.pickF rfl h46 rfl) rfl ?_
                    refine S.p (Pu.assign rfl) rfl ?_
                    refine S.endJ ?_
                    exact J.ret (Fin.ret (rs := [.tmp 6]) rfl [_] ⟨rfl, trivial⟩ [] (by decide) [] rfl ⟨(by have hk2 : i = n := (by omega); subst hk2; rw [Dw.soonR_at (by assumption), ← hst]; simp [vOf, Dw.soonW, *]), rfl⟩)
                ·
                  have p49 := of_decide_eq_false h44
                  refine S.gskip (t := 102) rfl rfl (no_bool (by rw [h44]; decide)) rfl rfl ?_
                  refine S.gskip (t := 102) rfl rfl (no_bool (by rw [h44]; decide)) rfl rfl ?_
                  refine S.p (Pu.pickF rfl h44 rfl) rfl ?_
                  refine S.p (Pu.move rfl) rfl ?_
                  refine S.gskip (t := 106) rfl rfl (no_bool (by decide)) rfl rfl ?_
                  refine S.gskip (t := 106) rfl rfl (no_bool (by decide)) rfl rfl ?_
                  refine S.gskip (t := 106) rfl rfl (no_bool (by decide)) rfl rfl ?_
                  refine S.gskip (t := 106) rfl rfl (no_bool (by decide)) rfl rfl ?_
                  refine S.gskip (t := 106) rfl rfl (no_bool (by decide)) rfl rfl ?_
                  refine S.gskip (t := 106) rfl rfl (no_bool (by decide)) rfl rfl ?_
                  refine S.p (Pu.pickF rfl rfl rfl) rfl ?_
                  refine S.p (Pu.assign rfl) rfl ?_
                  refine S.endJ ?_
                  exact J.ret (Fin.ret (rs := [.tmp 6]) rfl [_] ⟨rfl, trivial⟩ [] (by decide) [] rfl ⟨(by have hk2 : i = n := (by omega); subst hk2; rw [Dw.soonR_at (by assumption), ← hst]; simp [vOf, Dw.soonW, *]), rfl⟩)
            ·
              have p50 := of_decide_eq_false h39
              refine O.gskip (t := 83) rfl rfl (no_bool (by rw [h39]; decide)) rfl rfl ?_
              refine O.gskip (t := 83) rfl rfl (no_bool (by rw [h39]; decide)) rfl rfl ?_
              refine O.gskip (t := 83) rfl rfl (no_bool (by rw [h39]; decide)) rfl rfl ?_
              refine O.gskip (t := 83) rfl rfl (no_bool (by rw [h39]; decide)) rfl rfl ?_
              refine O.gskip (t := 83) rfl rfl (no_bool (by rw [h39]; decide)) rfl rfl ?_
              refine O.gskip (t := 83) rfl rfl (no_bool (by rw [h39]; decide)) rfl rfl ?_
              refine O.p (Pu.pickF rfl h39 rfl) rfl ?_
              refine O.nil ?_
              refine J.condF rfl rfl ?_
              refine J.skip ?_
              refine J.seq ?_
              refine J.drawStill Try.mixed (by kernel_rfl) ?_
              refine S.p (Pu.move rfl) rfl ?_
              refine S.p (Pu.move rfl) rfl ?_
              refine S.q (Qt.idxM Try.runUnderlying112 Try.sizeOf116 rfl (Src.ro 0 rfl) rfl (by first | omega | (simp only [List.length_append, List.length_cons, List.length_nil, List.length_set]; omega)) (by first | omega | (simp only [List.length_append, List.length_cons, List.length_nil, List.length_set]; omega))) rfl ?_
              refine S.p (Pu.fieldAddr (off' := voff wv + ((n : Int)).toNat * 7 + 5) Try.runUnderlying116 rfl Try.sizeOf3 rfl rfl rfl) rfl ?_
              refine S.q (Qt.ld rfl (Cel.eltM (Src.ro 0 rfl) he32) (o := (voff wv + n * 7)) (off := 5) (by omega) (Cut.one Try.isAgg3 rfl)) rfl ?_
              refine S.p (Pu.move rfl) rfl ?_
              refine S.p (Pu.move rfl) rfl ?_
              refine S.q (Qt.idxM Try.runUnderlying112 Try.sizeOf116 rfl (Src.ro 0 rfl) rfl (by first | omega | (simp only [List.length_append, List.length_cons, List.length_nil, List.length_set]; omega)) (by first | omega | (simp only [List.length_append, List.length_cons, List.length_nil, List.length_set]; omega))) rfl ?_
              refine S.p (Pu.fieldAddr (off' := voff wv + ((n : Int)).toNat * 7 + 4) Try.runUnderlying116 rfl Try.sizeOf3 rfl rfl rfl) rfl ?_
              refine S.q (Qt.ld rfl (Cel.eltM (Src.ro 0 rfl) he32) (o := (voff wv + n * 7)) (off := 4) (by omega) (Cut.one Try.isAgg3 rfl)) rfl ?_
              refine S.p (Pu.neq rfl rfl) rfl ?_
              refine S.p (Pu.move rfl) rfl ?_
              refine by_bool (decide (e32.on ≠ e32.off)) (fun h51 => ?_) (fun h51 => ?_)
              ·
                have p52 := of_decide_eq_true h51
                refine S.gq (t := 102) rfl rfl h51 rfl (Pu.qt (Pu.move rfl)) rfl ?_
                refine S.gq (t := 102) rfl rfl h51 rfl (Pu.qt (Pu.geq rfl rfl)) rfl ?_
                refine S.p (Pu.pickT rfl h51 rfl) rfl ?_
                refine S.p (Pu.move rfl) rfl ?_
                refine by_bool (decide (0 ≤ di)) (fun h53 => ?_) (fun h53 => ?_)
                ·
                  have p54 := of_decide_eq_true h53
                  refine S.gq (t := 106) rfl rfl h53 rfl (Pu.qt (Pu.move rfl)) rfl ?_
                  refine S.gq (t := 106) rfl rfl h53 rfl (Pu.qt (Pu.move rfl)) rfl ?_
                  refine S.gq (t := 106) rfl rfl h53 rfl (Pu.qt (Pu.sub rfl rfl)) rfl ?_
                  refine S.gq (t := 106) rfl rfl h53 rfl (Pu.qt (Pu.fieldAddr (off' := 6) Try.runUnderlying42 rfl Try.sizeOf3 rfl rfl rfl)) rfl ?_
                  refine S.gq (t := 106) rfl rfl h53 rfl (Qt.ld rfl (Cel.var 0 rfl) (o := 0) (off := 6) rfl (Cut.one Try.isAgg3 rfl)) rfl ?_
                  refine S.gq (t := 106) rfl rfl h53 rfl (Pu.qt (Pu.lss rfl rfl)) rfl ?_
                  refine S.p (Pu.pickT rfl h53 rfl) rfl ?_
                  refine S.p (Pu.assign rfl) rfl ?_
                  refine S.endJ ?_
                  exact J.ret (Fin.ret (rs := [.tmp 6]) rfl [_] ⟨rfl, trivial⟩ [] (by decide) [] rfl ⟨(by have hk2 : i = n := (by omega); subst hk2; rw [Dw.soonR_at (by assumption), ← hst]; simp [vOf, Dw.soonW, *]), rfl⟩)
                ·
                  have p55 := of_decide_eq_false h53
                  refine S.gskip (t := 106) rfl rfl (no_bool (by rw [h53]; decide)) rfl rfl ?_
                  refine S.gskip (t := 106) rfl rfl (no_bool (by rw [h53]; decide)) rfl rfl ?_
                  refine S.gskip (t := 106) rfl rfl (no_bool (by rw [h53]; decide)) rfl rfl ?_
                  refine S.gskip (t := 106) rfl rfl (no_bool (by rw [h53]; decide)) rfl rfl ?_
                  refine S.gskip (t := 106) rfl rfl (no_bool (by rw [h53]; decide)) rfl rfl ?_
                  refine S.gskip (t := 106) rfl rfl (no_bool (by rw [h53]; decide)) rfl rfl ?_
                  refine S.p (Pu.pickF rfl h53 rfl) rfl ?_
                  refine S.p (Pu.assign rfl) rfl ?_
                  refine S.endJ ?_
                  exact J.ret (Fin.ret (rs := [.tmp 6]) rfl [_] ⟨rfl, trivial⟩ [] (by decide) [] rfl ⟨(by have hk2 : i = n := (by omega); subst hk2; rw [Dw.soonR_at (by assumption), ← hst]; simp [vOf, Dw.soonW, *]), rfl⟩)
              ·
                have p56 := of_decide_eq_false h51
                refine S.gskip (t := 102) rfl rfl (no_bool (by rw [h51]; decide)) rfl rfl ?_
                refine S.gskip (t := 102) rfl rfl (no_bool (by rw [h51]; decide)) rfl rfl ?_
                refine S.p (Pu.pickF rfl h51 rfl) rfl ?_
                refine S.p (Pu.move rfl) rfl ?_
                refine S.gskip (t := 106) rfl rfl (no_bool (by decide)) rfl rfl ?_
                refine S.gskip (t := 106) rfl rfl (no_bool (by decide)) rfl rfl ?_
                refine S.gskip (t := 106) rfl rfl (no_bool (by decide)) rfl rfl ?_
                refine S.gskip (t := 106) rfl rfl (no_bool (by decide)) rfl rfl ?_
                refine S.gskip (t := 106) rfl rfl (no_bool (by decide)) rfl rfl ?_
                refine S.gskip (t := 106) rfl rfl (no_bool (by decide)) rfl rfl ?_
                refine S.p (Pu.pickF rfl rfl rfl) rfl ?_
                refine S.p (Pu.assign rfl) rfl ?_
                refine S.endJ ?_
                exact J.ret (Fin.ret (rs := [.tmp 6]) rfl [_] ⟨rfl, trivial⟩ [] (by decide) [] rfl ⟨(by have hk2 : i = n := (by omega); subst hk2; rw [Dw.soonR_at (by assumption), ← hst]; simp [vOf, Dw.soonW, *]), rfl⟩)
          ·
            have p57 := of_decide_eq_false h36
            refine O.gskip (t := 74) rfl rfl (no_bool (by rw [h36]; decide)) rfl rfl ?_
            refine O.gskip (t := 74) rfl rfl (no_bool (by rw [h36]; decide)) rfl rfl ?_
            refine O.gskip (t := 74) rfl rfl (no_bool (by rw [h36]; decide)) rfl rfl ?_
            refine O.gskip (t := 74) rfl rfl (no_bool (by rw [h36]; decide)) rfl rfl ?_
            refine O.gskip (t := 74) rfl rfl (no_bool (by rw [h36]; decide)) rfl rfl ?_
            refine O.gskip (t := 74) rfl rfl (no_bool (by rw [h36]; decide)) rfl rfl ?_
            refine O.gskip (t := 74) rfl rfl (no_bool (by rw [h36]; decide)) rfl rfl ?_
            refine O.p (Pu.pickF rfl h36 rfl) rfl ?_
            refine O.p (Pu.move rfl) rfl ?_
            refine O.gskip (t := 83) rfl rfl (no_bool (by decide)) rfl rfl ?_
            refine O.gskip (t := 83) rfl rfl (no_bool (by decide)) rfl rfl ?_
            refine O.gskip (t := 83) rfl rfl (no_bool (by decide)) rfl rfl ?_
            refine O.gskip (t := 83) rfl rfl (no_bool (by decide)) rfl rfl ?_
            refine O.gskip (t := 83) rfl rfl (no_bool (by decide)) rfl rfl ?_
            refine O.gskip (t := 83) rfl rfl (no_bool (by decide)) rfl rfl ?_
            refine O.p (Pu.pickF rfl rfl rfl) rfl ?_
            refine O.nil ?_
            refine J.condF rfl rfl ?_
            refine J.skip ?_
            refine J.seq ?_
            refine J.drawStill Try.mixed (by kernel_rfl) ?_
            refine S.p (Pu.move rfl) rfl ?_
            refine S.p (Pu.move rfl) rfl ?_
            refine S.q (Qt.idxM Try.runUnderlying112 Try.sizeOf116 rfl (Src.ro 0 rfl) rfl (by first | omega | (simp only [List.length_append, List.length_cons, List.length_nil, List.length_set]; omega)) (by first | omega | (simp only [List.length_append, List.length_cons, List.length_nil, List.length_set]; omega))) rfl ?_
            refine S.p (Pu.fieldAddr (off' := voff wv + ((n : Int)).toNat * 7 + 5) Try.runUnderlying116 rfl Try.sizeOf3 rfl rfl rfl) rfl ?_
            refine S.q (Qt.ld rfl (Cel.eltM (Src.ro 0 rfl) he32) (o := (voff wv + n * 7)) (off := 5) (by omega) (Cut.one Try.isAgg3 rfl)) rfl ?_
            refine S.p (Pu.move rfl) rfl ?_
            refine S.p (Pu.move rfl) rfl ?_
            refine S.q (Qt.idxM Try.runUnderlying112 Try.sizeOf116 rfl (Src.ro 0 rfl) rfl (by first | omega | (simp only [List.length_append, List.length_cons, List.length_nil, List.length_set]; omega)) (by first | omega | (simp only [List.length_append, List.length_cons, List.length_nil, List.length_set]; omega))) rfl ?_
            refine S.p (Pu.fieldAddr (off' := voff wv + ((n : Int)).toNat * 7 + 4) Try.runUnderlying116 rfl Try.sizeOf3 rfl rfl rfl) rfl ?_
            refine S.q (Qt.ld rfl (Cel.eltM (Src.ro 0 rfl) he32) (o := (voff wv + n * 7)) (off := 4) (by omega) (Cut.one Try.isAgg3 rfl)) rfl ?_
            refine S.p (Pu.neq rfl rfl) rfl ?_
            refine S.p (Pu.move rfl) rfl ?_
            refine by_bool (decide (e32.on ≠ e32.off)) (fun h58 => ?_) (fun h58 => ?_)
            ·
              have p59 := of_decide_eq_true h58
              refine S.gq (t := 102) rfl rfl h58 rfl (Pu.qt (Pu.move rfl)) rfl ?_
              refine S.gq (t := 102) rfl rfl h58 rfl (Pu.qt (Pu.geq rfl rfl)) rfl ?_
              refine S.p (Pu.pickT rfl h58 rfl) rfl ?_
              refine S.p (Pu.move rfl) rfl ?_
              refine by_bool (decide (0 ≤ di)) (fun h60 => ?_) (fun h60 => ?_)
              ·
                have p61 := of_decide_eq_true h60
                refine S.gq (t := 106) rfl rfl h60 rfl (Pu.qt (Pu.move rfl)) rfl ?_
                refine S.gq (t := 106) rfl rfl h60 rfl (Pu.qt (Pu.move rfl)) rfl ?_
                refine S.gq (t := 106) rfl rfl h60 rfl (Pu.qt (Pu.sub rfl rfl)) rfl ?_
                refine S.gq (t := 106) rfl rfl h60 rfl (Pu.qt (Pu.fieldAddr (off' := 6) Try.runUnderlying42 rfl Try.sizeOf3 rfl rfl rfl)) rfl ?_
                refine S.gq (t := 106) rfl rfl h60 rfl (Qt.ld rfl (Cel.var 0 rfl) (o := 0) (off := 6) rfl (Cut.one Try.isAgg3 rfl)) rfl ?_
                refine S.gq (t := 106) rfl rfl h60 rfl (Pu.qt (Pu.lss rfl rfl)) rfl ?_
                refine S.p (Pu.pickT rfl h60 rfl) rfl ?_
                refine S.p (Pu.assign rfl) rfl ?_
                refine S.endJ ?_
                exact J.ret (Fin.ret (rs := [.tmp 6]) rfl [_] ⟨rfl, trivial⟩ [] (by decide) [] rfl ⟨(by have hk2 : i = n := (by omega); subst hk2; rw [Dw.soonR_at (by assumption), ← hst]; simp [vOf, Dw.soonW, *]), rfl⟩)
              ·
                have p62 := of_decide_eq_false h60
                refine S.gskip (t := 106) rfl rfl (no_bool (by rw [h60]; decide)) rfl rfl ?_
                refine S.gskip (t := 106) rfl rfl (no_bool (by rw [h60]; decide)) rfl rfl ?_
                refine S.gskip (t := 106) rfl rfl (no_bool (by rw [h60]; decide)) rfl rfl ?_
                refine S.gskip (t := 106) rfl rfl (no_bool (by rw [h60]; decide)) rfl rfl ?_
                refine S.gskip (t := 106) rfl rfl (no_bool (by rw [h60]; decide)) rfl rfl ?_
                refine S.gskip (t := 106) rfl rfl (no_bool (by rw [h60]; decide)) rfl rfl ?_
                refine S.p (Pu.pickF rfl h60 rfl) rfl ?_
                refine S.p (Pu.assign rfl) rfl ?_
                refine S.endJ ?_
                exact J.ret (Fin.ret (rs := [.tmp 6]) rfl [_] ⟨rfl, trivial⟩ [] (by decide) [] rfl ⟨(by have hk2 : i = n := (by omega); subst hk2; rw [Dw.soonR_at (by assumption), ← hst]; simp [vOf, Dw.soonW, *]), rfl⟩)
            ·
              have p63 := of_decide_eq_false h58
              refine S.gskip (t := 102) rfl rfl (no_bool (by rw [h58]; decide)) rfl rfl ?_
              refine S.gskip (t := 102) rfl rfl (no_bool (by rw [h58]; decide)) rfl rfl ?_
              refine S.p (Pu.pickF rfl h58 rfl) rfl ?_
              refine S.p (Pu.move rfl) rfl ?_
              refine S.gskip (t := 106) rfl rfl (no_bool (by decide)) rfl rfl ?_
              refine S.gskip (t := 106) rfl rfl (no_bool (by decide)) rfl rfl ?_
              refine S.gskip (t := 106) rfl rfl (no_bool (by decide)) rfl rfl ?_
              refine S.gskip (t := 106) rfl rfl (no_bool (by decide)) rfl rfl ?_
              refine S.gskip (t := 106) rfl rfl (no_bool (by decide)) rfl rfl ?_
              refine S.gskip (t := 106) rfl rfl (no_bool (by decide)) rfl rfl ?_
              refine S.p (Pu.pickF rfl rfl rfl) rfl ?_
              refine S.p (Pu.assign rfl) rfl ?_
              refine S.endJ ?_
              exact J.ret (Fin.ret (rs := [.tmp 6]) rfl [_] ⟨rfl, trivial⟩ [] (by decide) [] rfl ⟨(by have hk2 : i = n := (by omega); subst hk2; rw [Dw.soonR_at (by assumption), ← hst]; simp [vOf, Dw.soonW, *]), rfl⟩)
        ·
          have p64 := of_decide_eq_false h34
          refine O.gskip (t := 70) rfl rfl (no_bool (by rw [h34]; decide)) rfl rfl ?_
          refine O.gskip (t := 70) rfl rfl (no_bool (by rw [h34]; decide)) rfl rfl ?_
          refine O.p (Pu.pickF rfl h34 rfl) rfl ?_
          refine O.p (Pu.move rfl) rfl ?_
          refine O.gskip (t := 74) rfl rfl (no_bool (by decide)) rfl rfl ?_
          refine O.gskip (t := 74) rfl rfl (no_bool (by decide)) rfl rfl ?_
          refine O.gskip (t := 74) rfl rfl (no_bool (by decide)) rfl rfl ?_
          refine O.gskip (t := 74) rfl rfl (no_bool (by decide)) rfl rfl ?_
          refine O.gskip (t := 74) rfl rfl (no_bool (by decide)) rfl rfl ?_
          refine O.gskip (t := 74) rfl rfl (no_bool (by decide)) rfl rfl ?_
          refine O.gskip (t := 74) rfl rfl (no_bool (by decide)) rfl rfl ?_
          refine O.p (Pu.pickF rfl rfl rfl) rfl ?_
          refine O.p (Pu.move rfl) rfl ?_
          refine O.gskip (t := 83) rfl rfl (no_bool (by decide)) rfl rfl ?_
          refine O.gskip (t := 83) rfl rfl (no_bool (by decide)) rfl rfl ?_
          refine O.gskip (t := 83) rfl rfl (no_bool (by decide)) rfl rfl ?_
          refine O.gskip (t := 83) rfl rfl (no_bool (by decide)) rfl rfl ?_
          refine O.gskip (t := 83) rfl rfl (no_bool (by decide)) rfl rfl ?_
          refine O.gskip (t := 83) rfl rfl (no_bool (by decide)) rfl rfl ?_
          refine O.p (Pu.pickF rfl rfl rfl) rfl ?_
          refine O.nil ?_
          refine J.condF rfl rfl ?_
          refine J.skip ?_
          refine J.seq ?_
          refine J.drawStill Try.mixed (by kernel_rfl) ?_
          refine S.p (Pu.move rfl) rfl ?_
          refine S.p (Pu.move rfl) rfl ?_
          refine S.q (Qt.idxM Try.runUnderlying112 Try.sizeOf116 rfl (Src.ro 0 rfl) rfl (by first | omega | (simp only [List.length_append, List.length_cons, List.length_nil, List.length_set]; omega)) (by first | omega | (simp only [List.length_append, List.length_cons, List.length_nil, List.length_set]; omega))) rfl ?_
          refine S.p (Pu.fieldAddr (off' := voff wv + ((n : Int)).toNat * 7 + 5) Try.runUnderlying116 rfl Try.sizeOf3 rfl rfl rfl) rfl ?_
          refine S.q (Qt.ld rfl (Cel.eltM (Src.ro 0 rfl) he32) (o := (voff wv + n * 7)) (off := 5) (by omega) (Cut.one Try.isAgg3 rfl)) rfl ?_
          refine S.p (Pu.move rfl) rfl ?_
          refine S.p (Pu.move rfl) rfl ?_
          refine S.q (Qt.idxM Try.runUnderlying112 Try.sizeOf116 rfl (Src.ro 0 rfl) rfl (by first | omega | (simp only [List.length_append, List.length_cons, List.length_nil, List.length_set]; omega)) (by first | omega | (simp only [List.length_append, List.length_cons, List.length_nil, List.length_set]; omega))) rfl ?_
          refine S.p (Pu.fieldAddr (off' := voff wv + ((n : Int)).toNat * 7 + 4) Try.runUnderlying116 rfl Try.sizeOf3 rfl rfl rfl) rfl ?_
          refine S.q (Qt.ld rfl (Cel.eltM (Src.ro 0 rfl) he32) (o := (voff wv + n * 7)) (off := 4) (by omega) (Cut.one Try.isAgg3 rfl)) rfl ?_
          refine S.p (Pu.neq rfl rfl) rfl ?_
          refine S.p (Pu.move rfl) rfl ?_
          refine by_bool (decide (e32.on ≠ e32.off)) (fun h65 => ?_) (fun h65 => ?_)
          ·
            have p66 := of_decide_eq_true h65
            refine S.gq (t := 102) rfl rfl h65 rfl (Pu.qt (Pu.move rfl)) rfl ?_
            refine S.gq (t := 102) rfl rfl h65 rfl (Pu.qt (Pu.geq rfl rfl)) rfl ?_
            refine S.p (Pu.pickT rfl h65 rfl) rfl ?_
            refine S.p (Pu.move rfl) rfl ?_
            refine by_bool (decide (0 ≤ di)) (fun h67 => ?_) (fun h67 => ?_)
            ·
              have p68 := of_decide_eq_true h67
              refine S.gq (t := 106) rfl rfl h67 rfl (Pu.qt (Pu.move rfl)) rfl ?_
              refine S.gq (t := 106) rfl rfl h67 rfl (Pu.qt (Pu.move rfl)) rfl ?_
              refine S.gq (t := 106) rfl rfl h67 rfl (Pu.qt (Pu.sub rfl rfl)) rfl ?_
              refine S.gq (t := 106) rfl rfl h67 rfl (Pu.qt (Pu.fieldAddr (off' := 6) Try.runUnderlying42 rfl Try.sizeOf3 rfl rfl rfl)) rfl ?_
              refine S.gq (t := 106) rfl rfl h67 rfl (Qt.ld rfl (Cel.var 0 rfl) (o := 0) (off := 6) rfl (Cut.one Try.isAgg3 rfl)) rfl ?_
              refine S.gq (t := 106) rfl rfl h67 rfl (Pu.qt (Pu.lss rfl rfl)) rfl ?_
              refine S.p (Pu.pickT rfl h67 rfl) rfl ?_
              refine S.p (Pu.assign rfl) rfl ?_
              refine S.endJ ?_
              exact J.ret (Fin.ret (rs := [.tmp 6]) rfl [_] ⟨rfl, trivial⟩ [] (by decide) [] rfl ⟨(by have hk2 : i = n := (by omega); subst hk2; rw [Dw.soonR_at (by assumption), ← hst]; simp [vOf, Dw.soonW, *]), rfl⟩)
            ·
              have p69 := of_decide_eq_false h67
              refine S.gskip (t := 106) rfl rfl (no_bool (by rw [h67]; decide)) rfl rfl ?_
              refine S.gskip (t := 106) rfl rfl (no_bool (by rw [h67]; decide)) rfl rfl ?_
              refine S.gskip (t := 106) rfl rfl (no_bool (by rw [h67]; decide)) rfl rfl ?_
              refine S.gskip (t := 106) rfl rfl (no_bool (by rw [h67]; decide)) rfl rfl ?_
              refine S.gskip (t := 106) rfl rfl (no_bool (by rw [h67]; decide)) rfl rfl ?_
              refine S.gskip (t := 106) rfl rfl (no_bool (by rw [h67]; decide)) rfl rfl ?_
              refine S.p (Pu.pickF rfl h67 rfl) rfl ?_
              refine S.p (Pu.assign rfl) rfl ?_
              refine S.endJ ?_
              exact J.ret (Fin.ret (rs := [.tmp 6]) rfl [_] ⟨rfl, trivial⟩ [] (by decide) [] rfl ⟨(by have hk2 : i = n := (by omega); subst hk2; rw [Dw.soonR_at (by assumption), ← hst]; simp [vOf, Dw.soonW, *]), rfl⟩)
          ·
            have p70 := of_decide_eq_false h65
            refine S.gskip (t := 102) rfl rfl (no_bool (by rw [h65]; decide)) rfl rfl ?_
            refine S.gskip (t := 102) rfl rfl (no_bool (by rw [h65]; decide)) rfl rfl ?_
            refine S.p (Pu.pickF rfl h65 rfl) rfl ?_
            refine S.p (Pu.move rfl) rfl ?_
            refine S.gskip (t := 106) rfl rfl (no_bool (by decide)) rfl rfl ?_
            refine S.gskip (t := 106) rfl rfl (no_bool (by decide)) rfl rfl ?_
            refine S.gskip (t := 106) rfl rfl (no_bool (by decide)) rfl rfl ?_
            refine S.gskip (t := 106) rfl rfl (no_bool (by decide)) rfl rfl ?_
            refine S.gskip (t := 106) rfl rfl (no_bool (by decide)) rfl rfl ?_
            refine S.gskip (t := 106) rfl rfl (no_bool (by decide)) rfl rfl ?_
            refine S.p (Pu.pickF rfl rfl rfl) rfl ?_
            refine S.p (Pu.assign rfl) rfl ?_
            refine S.endJ ?_
            exact J.ret (Fin.ret (rs := [.tmp 6]) rfl [_] ⟨rfl, trivial⟩ [] (by decide) [] rfl ⟨(by have hk2 : i = n := (by omega); subst hk2; rw [Dw.soonR_at (by assumption), ← hst]; simp [vOf, Dw.soonW, *]), rfl⟩)
  ·
    have p71 := of_decide_eq_false h3
    refine O.gskip (t := 15) rfl rfl (no_bool (by rw [h3]; decide)) rfl rfl ?_
    refine O.gskip (t := 15) rfl rfl (no_bool (by rw [h3]; decide)) rfl rfl ?_
    refine O.gskip (t := 15) rfl rfl (no_bool (by rw [h3]; decide)) rfl rfl ?_
    refine O.gskip (t := 15) rfl rfl (no_bool (by rw [h3]; decide)) rfl rfl ?_
    refine O.gskip (t := 15) rfl rfl (no_bool (by rw [h3]; decide)) rfl rfl ?_
    refine O.gskip (t := 15) rfl rfl (no_bool (by rw [h3]; decide)) rfl rfl ?_
    refine O.p (Pu.pickF rfl h3 rfl) rfl ?_
    refine O.nil ?_
    refine J.condF rfl rfl ?_
    refine J.exit _ rfl ?_
    refine J.seq ?_
    refine J.region ?_
    refine O.p (Pu.assign rfl) rfl ?_
    refine O.p (Pu.assign rfl) rfl ?_
    refine O.p (Pu.assign rfl) rfl ?_
    refine O.nil ?_
    refine J.seq ?_
    refine J.seq ?_
    refine J.region ?_
    refine O.p (Pu.move rfl) rfl ?_
    refine O.p (Pu.assign rfl) rfl ?_
    refine O.nil ?_
    refine J.block ?_
    refine J.loop (X := Nat × Int × Int × Int) (fun ξ => j ≤ ξ.1 ∧ ξ.1 ≤ n ∧ (ξ.2.1, ξ.2.2.1, ξ.2.2.2) = Dw.rB W ξ.1) (fun ξ => [(0, wv), (1, .int .i64 (n : Int)), (5, .pointer (some ⟨g1, 0, none⟩)), (6, .bool false), (8, .int .i64 ξ.2.1), (9, .int .i64 ξ.2.2.1), (10, .int .i64 ξ.2.2.2), (11, .int .i64 (ξ.1 : Int))]) (fun ξ => [var g1 [.int .i64 x.low, .int .i64 x.high, .int .i64 x.cut, .int .i64 x.lift, .int .i64 x.floor, .int .i64 x.turn, .int .i64 x.dwell] 42]) (fun ξ => n - ξ.1) ⟨j, 0, -1, -1⟩ (show j ≤ j ∧ j ≤ n ∧ (0, (-1), (-1)) = Dw.rB W j from ⟨by omega, by omega, (Dw.rB_start (by first | (left; omega) | (right; exact ⟨_, by assumption, by assumption⟩))).symm⟩) ⟨rfl, rfl, rfl, rfl, rfl, rfl, rfl, rfl, trivial⟩ [0] (by decide) rfl ?_
    rintro ⟨i, la, fi, di⟩ hq72
    obtain ⟨hji, hi, hst⟩ : j ≤ i ∧ i ≤ n ∧ (la, fi, di) = Dw.rB W i := hq72
    show J _ _ [(0, wv), (1, .int .i64 (n : Int)), (5, .pointer (some ⟨g1, 0, none⟩)), (6, .bool false), (8, .int .i64 la), (9, .int .i64 fi), (10, .int .i64 di), (11, .int .i64 (i : Int))] [var g1 [.int .i64 x.low, .int .i64 x.high, .int .i64 x.cut, .int .i64 x.lift, .int .i64 x.floor, .int .i64 x.turn, .int .i64 x.dwell] 42]
    refine J.seq ?_
    refine J.seq ?_
    refine J.region ?_
    refine O.p (Pu.move rfl) rfl ?_
    refine O.p (Pu.move rfl) rfl ?_
    refine O.p (Pu.lss rfl rfl) rfl ?_
    refine O.nil ?_
    refine J.cond rfl (fun h73 => ?_) (fun h73 => ?_)
    ·
      have p74 := of_decide_eq_true h73
      refine J.skip ?_
      refine J.seq ?_
      refine J.block ?_
      refine J.seq ?_
      refine J.seq ?_
      refine J.region ?_
      refine O.p (Pu.move rfl) rfl ?_
      refine O.p (Pu.move rfl) rfl ?_
      obtain ⟨e75, he75⟩ : ∃ e, W[i]? = some e := ⟨_, List.getElem?_eq_getElem (by first | omega | (simp only [List.length_append, List.length_cons, List.length_nil, List.length_set]; omega))⟩
      refine O.q (Qt.idxM Try.runUnderlying112 Try.sizeOf116 rfl (Src.ro 0 rfl) rfl (by first | omega | (simp only [List.length_append, List.length_cons, List.length_nil, List.length_set]; omega)) (by first | omega | (simp only [List.length_append, List.length_cons, List.length_nil, List.length_set]; omega))) rfl ?_
      refine O.q (Qt.ld rfl (Cel.eltM (Src.ro 0 rfl) he75) (o := (voff wv + i * 7)) (off := 0) (by omega) (Cut.agg [.int .i64 e75.at_, .int .i64 e75.no, .int .i64 e75.was, .int .i64 e75.is_, .int .i64 e75.off, .int .i64 e75.on, .bool e75.first] Try.isAgg116 Try.sizeOf116 rfl rfl)) rfl ?_
      refine O.l (Lo.call [.agg #[.int .i64 e75.at_, .int .i64 e75.no, .int .i64 e75.was, .int .i64 e75.is_, .int .i64 e75.off, .int .i64 e75.on, .bool e75.first]] (by exact Try.call65) rfl (r44_way e75) [] [0] (by decide) rfl _ rfl RoOk.nil) rfl ?_
      rintro _ _ ⟨_, ⟨rfl, rfl⟩, rfl⟩
      refine O.p (Pu.neq rfl rfl) rfl ?_
      refine O.p (Pu.move rfl) rfl ?_
      refine by_bool (decide ((Dw.way e75) ≠ 0)) (fun h77 => ?_) (fun h77 => ?_)
      ·
        have p78 := of_decide_eq_true h77
        refine O.gq (t := 37) rfl rfl h77 rfl (Pu.qt (Pu.move rfl)) rfl ?_
        refine O.gq (t := 37) rfl rfl h77 rfl (Pu.qt (Pu.move rfl)) rfl ?_
        refine O.gq (t := 37) rfl rfl h77 rfl (Qt.idxM Try.runUnderlying112 Try.sizeOf116 rfl (Src.ro 0 rfl) rfl (by first | omega | (simp only [List.length_append, List.length_cons, List.length_nil, List.length_set]; omega)) (by first | omega | (simp only [List.length_append, List.length_cons, List.length_nil, List.length_set]; omega))) rfl ?_
        refine O.gq (t := 37) rfl rfl h77 rfl (Qt.ld rfl (Cel.eltM (Src.ro 0 rfl) he75) (o := (voff wv + i * 7)) (off := 0) (by omega) (Cut.agg [.int .i64 e75.at_, .int .i64 e75.no, .int .i64 e75.was, .int .i64 e75.is_, .int .i64 e75.off, .int .i64 e75.on, .bool e75.first] Try.isAgg116 Try.sizeOf116 rfl rfl)) rfl ?_
        refine O.gl (t := 37) rfl rfl h77 rfl (Lo.call [.agg #[.int .i64 e75.at_, .int .i64 e75.no, .int .i64 e75.was, .int .i64 e75.is_, .int .i64 e75.off, .int .i64 e75.on, .bool e75.first]] (by exact Try.call65) rfl (r44_way e75) [] [0] (by decide) rfl _ rfl RoOk.nil) rfl ?_
        rintro _ _ ⟨_, ⟨rfl, rfl⟩, rfl⟩
        refine O.gq (t := 37) rfl rfl h77 rfl (Pu.qt (Pu.move rfl)) rfl ?_
        refine O.gq (t := 37) rfl rfl h77 rfl (Pu.qt (Pu.neq rfl rfl)) rfl ?_
        refine O.p (Pu.pickT rfl h77 rfl) rfl ?_
        refine O.nil ?_
        refine J.cond rfl (fun h80 => ?_) (fun h80 => ?_)
        ·
          have p81 := of_decide_eq_true h80
          refine J.seq ?_
          refine J.region ?_
          refine O.p (Pu.move rfl) rfl ?_
          refine O.p (Pu.move rfl) rfl ?_
          refine O.q (Qt.idxM Try.runUnderlying112 Try.sizeOf116 rfl (Src.ro 0 rfl) rfl (by first | omega | (simp only [List.length_append, List.length_cons, List.length_nil, List.length_set]; omega)) (by first | omega | (simp only [List.length_append, List.length_cons, List.length_nil, List.length_set]; omega))) rfl ?_
          refine O.q (Qt.ld rfl (Cel.eltM (Src.ro 0 rfl) he75) (o := (voff wv + i * 7)) (off := 0) (by omega) (Cut.agg [.int .i64 e75.at_, .int .i64 e75.no, .int .i64 e75.was, .int .i64 e75.is_, .int .i64 e75.off, .int .i64 e75.on, .bool e75.first] Try.isAgg116 Try.sizeOf116 rfl rfl)) rfl ?_
          refine O.l (Lo.call [.agg #[.int .i64 e75.at_, .int .i64 e75.no, .int .i64 e75.was, .int .i64 e75.is_, .int .i64 e75.off, .int .i64 e75.on, .bool e75.first]] (by exact Try.call65) rfl (r44_way e75) [] [0] (by decide) rfl _ rfl RoOk.nil) rfl ?_
          rintro _ _ ⟨_, ⟨rfl, rfl⟩, rfl⟩
          refine O.p (Pu.assign rfl) rfl ?_
          refine O.nil ?_
          refine J.region ?_
          refine O.p (Pu.move rfl) rfl ?_
          refine O.p (Pu.assign rfl) rfl ?_
          refine O.nil ?_
          refine J.seq ?_
          refine J.drawStill Try.mixed (by kernel_rfl) ?_
          refine S.p (Pu.move rfl) rfl ?_
          refine S.p (Pu.move rfl) rfl ?_
          refine S.q (Qt.idxM Try.runUnderlying112 Try.sizeOf116 rfl (Src.ro 0 rfl) rfl (by first | omega | (simp only [List.length_append, List.length_cons, List.length_nil, List.length_set]; omega)) (by first | omega | (simp only [List.length_append, List.length_cons, List.length_nil, List.length_set]; omega))) rfl ?_
          refine S.p (Pu.fieldAddr (off' := voff wv + ((i : Int)).toNat * 7 + 5) Try.runUnderlying116 rfl Try.sizeOf3 rfl rfl rfl) rfl ?_
          refine S.q (Qt.ld rfl (Cel.eltM (Src.ro 0 rfl) he75) (o := (voff wv + i * 7)) (off := 5) (by omega) (Cut.one Try.isAgg3 rfl)) rfl ?_
          refine S.p (Pu.move rfl) rfl ?_
          refine S.p (Pu.move rfl) rfl ?_
          refine S.q (Qt.idxM Try.runUnderlying112 Try.sizeOf116 rfl (Src.ro 0 rfl) rfl (by first | omega | (simp only [List.length_append, List.length_cons, List.length_nil, List.length_set]; omega)) (by first | omega | (simp only [List.length_append, List.length_cons, List.length_nil, List.length_set]; omega))) rfl ?_
          refine S.p (Pu.fieldAddr (off' := voff wv + ((i : Int)).toNat * 7 + 4) Try.runUnderlying116 rfl Try.sizeOf3 rfl rfl rfl) rfl ?_
          refine S.q (Qt.ld rfl (Cel.eltM (Src.ro 0 rfl) he75) (o := (voff wv + i * 7)) (off := 4) (by omega) (Cut.one Try.isAgg3 rfl)) rfl ?_
          refine S.p (Pu.neq rfl rfl) rfl ?_
          refine S.endJ ?_
          refine J.cond rfl (fun h83 => ?_) (fun h83 => ?_)
          ·
            have p84 := of_decide_eq_true h83
            refine J.region ?_
            refine O.p (Pu.move rfl) rfl ?_
            refine O.p (Pu.assign rfl) rfl ?_
            refine O.nil ?_
            refine J.blk ?_
            refine J.region ?_
            refine O.p (Pu.move rfl) rfl ?_
            refine O.p (Pu.add' rfl rfl (by first | omega | (simp only [List.length_append, List.length_cons, List.length_nil, List.length_set]; omega))) rfl ?_
            refine O.p (Pu.assign rfl) rfl ?_
            refine O.nil ?_
            exact J.lp ⟨i + 1, Dw.way e75, (i : Int), (i : Int)⟩ (show j ≤ (i + 1) ∧ (i + 1) ≤ n ∧ ((Dw.way e75), (i : Int), (i : Int)) = Dw.rB W (i + 1) from ⟨by omega, by omega, (by obtain ⟨w', hw'⟩ : ∃ w', W[i + 1]? = some w' := ⟨_, List.getElem?_eq_getElem (by omega)⟩; rw [Dw.rB_next (by assumption) hw' (hnf _ _ (by omega) (by omega) hw'), ← hst]; simp [Dw.rN, *])⟩) (show n - (i + 1) < n - i from (by first | omega | (simp only [List.length_append, List.length_cons, List.length_nil, List.length_set]; omega))) ⟨rfl, rfl, rfl, rfl, rfl, rfl, rfl, (congrArg (fun z => some (Value.int .i64 z)) (by first | rfl | omega : ((i : Int) + 1 : Int) = ((i + 1) : Int))), trivial⟩ [0] (by decide) rfl
          ·
            have p85 := of_decide_eq_false h83
            refine J.skip ?_
            refine J.blk ?_
            refine J.region ?_
            refine O.p (Pu.move rfl) rfl ?_
            refine O.p (Pu.add' rfl rfl (by first | omega | (simp only [List.length_append, List.length_cons, List.length_nil, List.length_set]; omega))) rfl ?_
            refine O.p (Pu.assign rfl) rfl ?_
            refine O.nil ?_
            exact J.lp ⟨i + 1, Dw.way e75, (i : Int), di⟩ (show j ≤ (i + 1) ∧ (i + 1) ≤ n ∧ ((Dw.way e75), (i : Int), di) = Dw.rB W (i + 1) from ⟨by omega, by omega, (by obtain ⟨w', hw'⟩ : ∃ w', W[i + 1]? = some w' := ⟨_, List.getElem?_eq_getElem (by omega)⟩; rw [Dw.rB_next (by assumption) hw' (hnf _ _ (by omega) (by omega) hw'), ← hst]; simp [Dw.rN, *])⟩) (show n - (i + 1) < n - i from (by first | omega | (simp only [List.length_append, List.length_cons, List.length_nil, List.length_set]; omega))) ⟨rfl, rfl, rfl, rfl, rfl, rfl, rfl, (congrArg (fun z => some (Value.int .i64 z)) (by first | rfl | omega : ((i : Int) + 1 : Int) = ((i + 1) : Int))), trivial⟩ [0] (by decide) rfl
        ·
          have p86 := of_decide_eq_false h80
          refine J.skip ?_
          refine J.seq ?_
          refine J.drawStill Try.mixed (by kernel_rfl) ?_
          refine S.p (Pu.move rfl) rfl ?_
          refine S.p (Pu.move rfl) rfl ?_
          refine S.q (Qt.idxM Try.runUnderlying112 Try.sizeOf116 rfl (Src.ro 0 rfl) rfl (by first | omega | (simp only [List.length_append, List.length_cons, List.length_nil, List.length_set]; omega)) (by first | omega | (simp only [List.length_append, List.length_cons, List.length_nil, List.length_set]; omega))) rfl ?_
          refine S.p (Pu.fieldAddr (off' := voff wv + ((i : Int)).toNat * 7 + 5) Try.runUnderlying116 rfl Try.sizeOf3 rfl rfl rfl) rfl ?_
          refine S.q (Qt.ld rfl (Cel.eltM (Src.ro 0 rfl) he75) (o := (voff wv + i * 7)) (off := 5) (by omega) (Cut.one Try.isAgg3 rfl)) rfl ?_
          refine S.p (Pu.move rfl) rfl ?_
          refine S.p (Pu.move rfl) rfl ?_
          refine S.q (Qt.idxM Try.runUnderlying112 Try.sizeOf116 rfl (Src.ro 0 rfl) rfl (by first | omega | (simp only [List.length_append, List.length_cons, List.length_nil, List.length_set]; omega)) (by first | omega | (simp only [List.length_append, List.length_cons, List.length_nil, List.length_set]; omega))) rfl ?_
          refine S.p (Pu.fieldAddr (off' := voff wv + ((i : Int)).toNat * 7 + 4) Try.runUnderlying116 rfl Try.sizeOf3 rfl rfl rfl) rfl ?_
          refine S.q (Qt.ld rfl (Cel.eltM (Src.ro 0 rfl) he75) (o := (voff wv + i * 7)) (off := 4) (by omega) (Cut.one Try.isAgg3 rfl)) rfl ?_
          refine S.p (Pu.neq rfl rfl) rfl ?_
          refine S.endJ ?_
          refine J.cond rfl (fun h87 => ?_) (fun h87 => ?_)
          ·
            have p88 := of_decide_eq_true h87
            refine J.region ?_
            refine O.p (Pu.move rfl) rfl ?_
            refine O.p (Pu.assign rfl) rfl ?_
            refine O.nil ?_
            refine J.blk ?_
            refine J.region ?_
            refine O.p (Pu.move rfl) rfl ?_
            refine O.p (Pu.add' rfl rfl (by first | omega | (simp only [List.length_append, List.length_cons, List.length_nil, List.length_set]; omega))) rfl ?_
            refine O.p (Pu.assign rfl) rfl ?_
            refine O.nil ?_
            exact J.lp ⟨i + 1, la, fi, (i : Int)⟩ (show j ≤ (i + 1) ∧ (i + 1) ≤ n ∧ (la, fi, (i : Int)) = Dw.rB W (i + 1) from ⟨by omega, by omega, (by obtain ⟨w', hw'⟩ : ∃ w', W[i + 1]? = some w' := ⟨_, List.getElem?_eq_getElem (by omega)⟩; rw [Dw.rB_next (by assumption) hw' (hnf _ _ (by omega) (by omega) hw'), ← hst]; simp [Dw.rN, *])⟩) (show n - (i + 1) < n - i from (by first | omega | (simp only [List.length_append, List.length_cons, List.length_nil, List.length_set]; omega))) ⟨rfl, rfl, rfl, rfl, rfl, rfl, rfl, (congrArg (fun z => some (Value.int .i64 z)) (by first | rfl | omega : ((i : Int) + 1 : Int) = ((i + 1) : Int))), trivial⟩ [0] (by decide) rfl
          ·
            have p89 := of_decide_eq_false h87
            refine J.skip ?_
            refine J.blk ?_
            refine J.region ?_
            refine O.p (Pu.move rfl) rfl ?_
            refine O.p (Pu.add' rfl rfl (by first | omega | (simp only [List.length_append, List.length_cons, List.length_nil, List.length_set]; omega))) rfl ?_
            refine O.p (Pu.assign rfl) rfl ?_
            refine O.nil ?_
            exact J.lp ⟨i + 1, la, fi, di⟩ (show j ≤ (i + 1) ∧ (i + 1) ≤ n ∧ (la, fi, di) = Dw.rB W (i + 1) from ⟨by omega, by omega, (by obtain ⟨w', hw'⟩ : ∃ w', W[i + 1]? = some w' := ⟨_, List.getElem?_eq_getElem (by omega)⟩; rw [Dw.rB_next (by assumption) hw' (hnf _ _ (by omega) (by omega) hw'), ← hst]; simp [Dw.rN, *])⟩) (show n - (i + 1) < n - i from (by first | omega | (simp only [List.length_append, List.length_cons, List.length_nil, List.length_set]; omega))) ⟨rfl, rfl, rfl, rfl, rfl, rfl, rfl, (congrArg (fun z => some (Value.int .i64 z)) (by first | rfl | omega : ((i : Int) + 1 : Int) = ((i + 1) : Int))), trivial⟩ [0] (by decide) rfl
      ·
        have p90 := of_decide_eq_false h77
        refine O.gskip (t := 37) rfl rfl (no_bool (by rw [h77]; decide)) rfl rfl ?_
        refine O.gskip (t := 37) rfl rfl (no_bool (by rw [h77]; decide)) rfl rfl ?_
        refine O.gskip (t := 37) rfl rfl (no_bool (by rw [h77]; decide)) rfl rfl ?_
        refine O.gskip (t := 37) rfl rfl (no_bool (by rw [h77]; decide)) rfl rfl ?_
        refine O.gskip (t := 37) rfl rfl (no_bool (by rw [h77]; decide)) rfl rfl ?_
        refine O.gskip (t := 37) rfl rfl (no_bool (by rw [h77]; decide)) rfl rfl ?_
        refine O.gskip (t := 37) rfl rfl (no_bool (by rw [h77]; decide)) rfl rfl ?_
        refine O.p (Pu.pickF rfl h77 rfl) rfl ?_
        refine O.nil ?_
        refine J.condF rfl rfl ?_
        refine J.skip ?_
        refine J.seq ?_
        refine J.drawStill Try.mixed (by kernel_rfl) ?_
        refine S.p (Pu.move rfl) rfl ?_
        refine S.p (Pu.move rfl) rfl ?_
        refine S.q (Qt.idxM Try.runUnderlying112 Try.sizeOf116 rfl (Src.ro 0 rfl) rfl (by first | omega | (simp only [List.length_append, List.length_cons, List.length_nil, List.length_set]; omega)) (by first | omega | (simp only [List.length_append, List.length_cons, List.length_nil, List.length_set]; omega))) rfl ?_
        refine S.p (Pu.fieldAddr (off' := voff wv + ((i : Int)).toNat * 7 + 5) Try.runUnderlying116 rfl Try.sizeOf3 rfl rfl rfl) rfl ?_
        refine S.q (Qt.ld rfl (Cel.eltM (Src.ro 0 rfl) he75) (o := (voff wv + i * 7)) (off := 5) (by omega) (Cut.one Try.isAgg3 rfl)) rfl ?_
        refine S.p (Pu.move rfl) rfl ?_
        refine S.p (Pu.move rfl) rfl ?_
        refine S.q (Qt.idxM Try.runUnderlying112 Try.sizeOf116 rfl (Src.ro 0 rfl) rfl (by first | omega | (simp only [List.length_append, List.length_cons, List.length_nil, List.length_set]; omega)) (by first | omega | (simp only [List.length_append, List.length_cons, List.length_nil, List.length_set]; omega))) rfl ?_
        refine S.p (Pu.fieldAddr (off' := voff wv + ((i : Int)).toNat * 7 + 4) Try.runUnderlying116 rfl Try.sizeOf3 rfl rfl rfl) rfl ?_
        refine S.q (Qt.ld rfl (Cel.eltM (Src.ro 0 rfl) he75) (o := (voff wv + i * 7)) (off := 4) (by omega) (Cut.one Try.isAgg3 rfl)) rfl ?_
        refine S.p (Pu.neq rfl rfl) rfl ?_
        refine S.endJ ?_
        refine J.cond rfl (fun h91 => ?_) (fun h91 => ?_)
        ·
          have p92 := of_decide_eq_true h91
          refine J.region ?_
          refine O.p (Pu.move rfl) rfl ?_
          refine O.p (Pu.assign rfl) rfl ?_
          refine O.nil ?_
          refine J.blk ?_
          refine J.region ?_
          refine O.p (Pu.move rfl) rfl ?_
          refine O.p (Pu.add' rfl rfl (by first | omega | (simp only [List.length_append, List.length_cons, List.length_nil, List.length_set]; omega))) rfl ?_
          refine O.p (Pu.assign rfl) rfl ?_
          refine O.nil ?_
          exact J.lp ⟨i + 1, la, fi, (i : Int)⟩ (show j ≤ (i + 1) ∧ (i + 1) ≤ n ∧ (la, fi, (i : Int)) = Dw.rB W (i + 1) from ⟨by omega, by omega, (by obtain ⟨w', hw'⟩ : ∃ w', W[i + 1]? = some w' := ⟨_, List.getElem?_eq_getElem (by omega)⟩; rw [Dw.rB_next (by assumption) hw' (hnf _ _ (by omega) (by omega) hw'), ← hst]; simp [Dw.rN, *])⟩) (show n - (i + 1) < n - i from (by first | omega | (simp only [List.length_append, List.length_cons, List.length_nil, List.length_set]; omega))) ⟨rfl, rfl, rfl, rfl, rfl, rfl, rfl, (congrArg (fun z => some (Value.int .i64 z)) (by first | rfl | omega : ((i : Int) + 1 : Int) = ((i + 1) : Int))), trivial⟩ [0] (by decide) rfl
        ·
          have p93 := of_decide_eq_false h91
          refine J.skip ?_
          refine J.blk ?_
          refine J.region ?_
          refine O.p (Pu.move rfl) rfl ?_
          refine O.p (Pu.add' rfl rfl (by first | omega | (simp only [List.length_append, List.length_cons, List.length_nil, List.length_set]; omega))) rfl ?_
          refine O.p (Pu.assign rfl) rfl ?_
          refine O.nil ?_
          exact J.lp ⟨i + 1, la, fi, di⟩ (show j ≤ (i + 1) ∧ (i + 1) ≤ n ∧ (la, fi, di) = Dw.rB W (i + 1) from ⟨by omega, by omega, (by obtain ⟨w', hw'⟩ : ∃ w', W[i + 1]? = some w' := ⟨_, List.getElem?_eq_getElem (by omega)⟩; rw [Dw.rB_next (by assumption) hw' (hnf _ _ (by omega) (by omega) hw'), ← hst]; simp [Dw.rN, *])⟩) (show n - (i + 1) < n - i from (by first | omega | (simp only [List.length_append, List.length_cons, List.length_nil, List.length_set]; omega))) ⟨rfl, rfl, rfl, rfl, rfl, rfl, rfl, (congrArg (fun z => some (Value.int .i64 z)) (by first | rfl | omega : ((i : Int) + 1 : Int) = ((i + 1) : Int))), trivial⟩ [0] (by decide) rfl
    ·
      have p94 := of_decide_eq_false h73
      refine J.exit _ rfl ?_
      refine J.seq ?_
      refine J.seq ?_
      refine J.region ?_
      refine O.p (Pu.move rfl) rfl ?_
      refine O.p (Pu.move rfl) rfl ?_
      obtain ⟨e95, he95⟩ : ∃ e, W[n]? = some e := ⟨_, List.getElem?_eq_getElem (by first | omega | (simp only [List.length_append, List.length_cons, List.length_nil, List.length_set]; omega))⟩
      refine O.q (Qt.idxM Try.runUnderlying112 Try.sizeOf116 rfl (Src.ro 0 rfl) rfl (by first | omega | (simp only [List.length_append, List.length_cons, List.length_nil, List.length_set]; omega)) (by first | omega | (simp only [List.length_append, List.length_cons, List.length_nil, List.length_set]; omega))) rfl ?_
      refine O.q (Qt.ld rfl (Cel.eltM (Src.ro 0 rfl) he95) (o := (voff wv + n * 7)) (off := 0) (by omega) (Cut.agg [.int .i64 e95.at_, .int .i64 e95.no, .int .i64 e95.was, .int .i64 e95.is_, .int .i64 e95.off, .int .i64 e95.on, .bool e95.first] Try.isAgg116 Try.sizeOf116 rfl rfl)) rfl ?_
      refine O.l (Lo.call [.agg #[.int .i64 e95.at_, .int .i64 e95.no, .int .i64 e95.was, .int .i64 e95.is_, .int .i64 e95.off, .int .i64 e95.on, .bool e95.first]] (by exact Try.call65) rfl (r44_way e95) [] [0] (by decide) rfl _ rfl RoOk.nil) rfl ?_
      rintro _ _ ⟨_, ⟨rfl, rfl⟩, rfl⟩
      refine O.p (Pu.neq rfl rfl) rfl ?_
      refine O.p (Pu.move rfl) rfl ?_
      refine by_bool (decide ((Dw.way e95) ≠ 0)) (fun h97 => ?_) (fun h97 => ?_)
      ·
        have p98 := of_decide_eq_true h97
        refine O.gq (t := 70) rfl rfl h97 rfl (Pu.qt (Pu.move rfl)) rfl ?_
        refine O.gq (t := 70) rfl rfl h97 rfl (Pu.qt (Pu.neq rfl rfl)) rfl ?_
        refine O.p (Pu.pickT rfl h97 rfl) rfl ?_
        refine O.p (Pu.move rfl) rfl ?_
        refine by_bool (decide (la ≠ 0)) (fun h99 => ?_) (fun h99 => ?_)
        ·
          have p100 := of_decide_eq_true h99
          refine O.gq (t := 74) rfl rfl h99 rfl (Pu.qt (Pu.move rfl)) rfl ?_
          refine O.gq (t := 74) rfl rfl h99 rfl (Pu.qt (Pu.move rfl)) rfl ?_
          refine O.gq (t := 74) rfl rfl h99 rfl (Qt.idxM Try.runUnderlying112 Try.sizeOf116 rfl (Src.ro 0 rfl) rfl (by first | omega | (simp only [List.length_append, List.length_cons, List.length_nil, List.length_set]; omega)) (by first | omega | (simp only [List.length_append, List.length_cons, List.length_nil, List.length_set]; omega))) rfl ?_
          refine O.gq (t := 74) rfl rfl h99 rfl (Qt.ld rfl (Cel.eltM (Src.ro 0 rfl) he95) (o := (voff wv + n * 7)) (off := 0) (by omega) (Cut.agg [.int .i64 e95.at_, .int .i64 e95.no, .int .i64 e95.was, .int .i64 e95.is_, .int .i64 e95.off, .int .i64 e95.on, .bool e95.first] Try.isAgg116 Try.sizeOf116 rfl rfl)) rfl ?_
          refine O.gl (t := 74) rfl rfl h99 rfl (Lo.call [.agg #[.int .i64 e95.at_, .int .i64 e95.no, .int .i64 e95.was, .int .i64 e95.is_, .int .i64 e95.off, .int .i64 e95.on, .bool e95.first]] (by exact Try.call65) rfl (r44_way e95) [] [0] (by decide) rfl _ rfl RoOk.nil) rfl ?_
          rintro _ _ ⟨_, ⟨rfl, rfl⟩, rfl⟩
          refine O.gq (t := 74) rfl rfl h99 rfl (Pu.qt (Pu.move rfl)) rfl ?_
          refine O.gq (t := 74) rfl rfl h99 rfl (Pu.qt (Pu.neq rfl rfl)) rfl ?_
          refine O.p (Pu.pickT rfl h99 rfl) rfl ?_
          refine O.p (Pu.move rfl) rfl ?_
          refine by_bool (decide ((Dw.way e95) ≠ la)) (fun h102 => ?_) (fun h102 => ?_)
          ·
            have p103 := of_decide_eq_true h102
            refine O.gq (t := 83) rfl rfl h102 rfl (Pu.qt (Pu.move rfl)) rfl ?_
            refine O.gq (t := 83) rfl rfl h102 rfl (Pu.qt (Pu.move rfl)) rfl ?_
            refine O.gq (t := 83) rfl rfl h102 rfl (Pu.qt (Pu.sub rfl rfl)) rfl ?_
            refine O.gq (t := 83) rfl rfl h102 rfl (Pu.qt (Pu.fieldAddr (off' := 5) Try.runUnderlying42 rfl Try.sizeOf3 rfl rfl rfl)) rfl ?_
            refine O.gq (t := 83) rfl rfl h102 rfl (Qt.ld rfl (Cel.var 0 rfl) (o := 0) (off := 5) rfl (Cut.one Try.isAgg3 rfl)) rfl ?_
            refine O.gq (t := 83) rfl rfl h102 rfl (Pu.qt (Pu.lss rfl rfl)) rfl ?_
            refine O.p (Pu.pickT rfl h102 rfl) rfl ?_
            refine O.nil ?_
            refine J.cond rfl (fun h104 => ?_) (fun h104 => ?_)
            ·
              have p105 := of_decide_eq_true h104
              refine J.seq ?_
              refine J.region ?_
              refine O.p (Pu.assign rfl) rfl ?_
              refine O.nil ?_
              exact J.ret (Fin.ret (rs := [.tmp 6]) rfl [_] ⟨rfl, trivial⟩ [] (by decide) [] rfl ⟨(by have hk2 : i = n := (by omega); subst hk2; rw [Dw.soonR_at (by assumption), ← hst]; simp [vOf, Dw.soonW, *]), rfl⟩)
            ·
              have p106 := of_decide_eq_false h104
              refine J.skip ?_
              refine J.seq ?_
              refine J.drawStill Try.mixed (by kernel_rfl) ?_
              refine S.p (Pu.move rfl) rfl ?_
              refine S.p (Pu.move rfl) rfl ?_
              refine S.q (Qt.idxM Try.runUnderlying112 Try.sizeOf116 rfl (Src.ro 0 rfl) rfl (by first | omega | (simp only [List.length_append, List.length_cons, List.length_nil, List.length_set]; omega)) (by first | omega | (simp only [List.length_append, List.length_cons, List.length_nil, List.length_set]; omega))) rfl ?_
              refine S.p (Pu.fieldAddr (off' := voff wv + ((n : Int)).toNat * 7 + 5) Try.runUnderlying116 rfl Try.sizeOf3 rfl rfl rfl) rfl ?_
              refine S.q (Qt.ld rfl (Cel.eltM (Src.ro 0 rfl) he95) (o := (voff wv + n * 7)) (off := 5) (by omega) (Cut.one Try.isAgg3 rfl)) rfl ?_
              refine S.p (Pu.move rfl) rfl ?_
              refine S.p (Pu.move rfl) rfl ?_
              refine S.q (Qt.idxM Try.runUnderlying112 Try.sizeOf116 rfl (Src.ro 0 rfl) rfl (by first | omega | (simp only [List.length_append, List.length_cons, List.length_nil, List.length_set]; omega)) (by first | omega | (simp only [List.length_append, List.length_cons, List.length_nil, List.length_set]; omega))) rfl ?_
              refine S.p (Pu.fieldAddr (off' := voff wv + ((n : Int)).toNat * 7 + 4) Try.runUnderlying116 rfl Try.sizeOf3 rfl rfl rfl) rfl ?_
              refine S.q (Qt.ld rfl (Cel.eltM (Src.ro 0 rfl) he95) (o := (voff wv + n * 7)) (off := 4) (by omega) (Cut.one Try.isAgg3 rfl)) rfl ?_
              refine S.p (Pu.neq rfl rfl) rfl ?_
              refine S.p (Pu.move rfl) rfl ?_
              refine by_bool (decide (e95.on ≠ e95.off)) (fun h107 => ?_) (fun h107 => ?_)
              ·
                have p108 := of_decide_eq_true h107
                refine S.gq (t := 102) rfl rfl h107 rfl (Pu.qt (Pu.move rfl)) rfl ?_
                refine S.gq (t := 102) rfl rfl h107 rfl (Pu.qt (Pu.geq rfl rfl)) rfl ?_
                refine S.p (Pu.pickT rfl h107 rfl) rfl ?_
                refine S.p (Pu.move rfl) rfl ?_
                refine by_bool (decide (0 ≤ di)) (fun h109 => ?_) (fun h109 => ?_)
                ·
                  have p110 := of_decide_eq_true h109
                  refine S.gq (t := 106) rfl rfl h109 rfl (Pu.qt (Pu.move rfl)) rfl ?_
                  refine S.gq (t := 106) rfl rfl h109 rfl (Pu.qt (Pu.move rfl)) rfl ?_
                  refine S.gq (t := 106) rfl rfl h109 rfl (Pu.qt (Pu.sub rfl rfl)) rfl ?_
                  refine S.gq (t := 106) rfl rfl h109 rfl (Pu.qt (Pu.fieldAddr (off' := 6) Try.runUnderlying42 rfl Try.sizeOf3 rfl rfl rfl)) rfl ?_
                  refine S.gq (t := 106) rfl rfl h109 rfl (Qt.ld rfl (Cel.var 0 rfl) (o := 0) (off := 6) rfl (Cut.one Try.isAgg3 rfl)) rfl ?_
                  refine S.gq (t := 106) rfl rfl h109 rfl (Pu.qt (Pu.lss rfl rfl)) rfl ?_
                  refine S.p (Pu.pickT rfl h109 rfl) rfl ?_
                  refine S.p (Pu.assign rfl) rfl ?_
                  refine S.endJ ?_
                  exact J.ret (Fin.ret (rs := [.tmp 6]) rfl [_] ⟨rfl, trivial⟩ [] (by decide) [] rfl ⟨(by have hk2 : i = n := (by omega); subst hk2; rw [Dw.soonR_at (by assumption), ← hst]; simp [vOf, Dw.soonW, *]), rfl⟩)
                ·
                  have p111 := of_decide_eq_false h109
                  refine S.gskip (t := 106) rfl rfl (no_bool (by rw [h109]; decide)) rfl rfl ?_
                  refine S.gskip (t := 106) rfl rfl (no_bool (by rw [h109]; decide)) rfl rfl ?_
                  refine S.gskip (t := 106) rfl rfl (no_bool (by rw [h109]; decide)) rfl rfl ?_
                  refine S.gskip (t := 106) rfl rfl (no_bool (by rw [h109]; decide)) rfl rfl ?_
                  refine S.gskip (t := 106) rfl rfl (no_bool (by rw [h109]; decide)) rfl rfl ?_
                  refine S.gskip (t := 106) rfl rfl (no_bool (by rw [h109]; decide)) rfl rfl ?_
                  refine S.p (Pu.pickF rfl h109 rfl) rfl ?_
                  refine S.p (Pu.assign rfl) rfl ?_
                  refine S.endJ ?_
                  exact J.ret (Fin.ret (rs := [.tmp 6]) rfl [_] ⟨rfl, trivial⟩ [] (by decide) [] rfl ⟨(by have hk2 : i = n := (by omega); subst hk2; rw [Dw.soonR_at (by assumption), ← hst]; simp [vOf, Dw.soonW, *]), rfl⟩)
              ·
                have p112 := of_decide_eq_false h107
                refine S.gskip (t := 102) rfl rfl (no_bool (by rw [h107]; decide)) rfl rfl ?_
                refine S.gskip (t := 102) rfl rfl (no_bool (by rw [h107]; decide)) rfl rfl ?_
                refine S.p (Pu.pickF rfl h107 rfl) rfl ?_
                refine S.p (Pu.move rfl) rfl ?_
                refine S.gskip (t := 106) rfl rfl (no_bool (by decide)) rfl rfl ?_
                refine S.gskip (t := 106) rfl rfl (no_bool (by decide)) rfl rfl ?_
                refine S.gskip (t := 106) rfl rfl (no_bool (by decide)) rfl rfl ?_
                refine S.gskip (t := 106) rfl rfl (no_bool (by decide)) rfl rfl ?_
                refine S.gskip (t := 106) rfl rfl (no_bool (by decide)) rfl rfl ?_
                refine S.gskip (t := 106) rfl rfl (no_bool (by decide)) rfl rfl ?_
                refine S.p (Pu.pickF rfl rfl rfl) rfl ?_
                refine S.p (Pu.assign rfl) rfl ?_
                refine S.endJ ?_
                exact J.ret (Fin.ret (rs := [.tmp 6]) rfl [_] ⟨rfl, trivial⟩ [] (by decide) [] rfl ⟨(by have hk2 : i = n := (by omega); subst hk2; rw [Dw.soonR_at (by assumption), ← hst]; simp [vOf, Dw.soonW, *]), rfl⟩)
          ·
            have p113 := of_decide_eq_false h102
            refine O.gskip (t := 83) rfl rfl (no_bool (by rw [h102]; decide)) rfl rfl ?_
            refine O.gskip (t := 83) rfl rfl (no_bool (by rw [h102]; decide)) rfl rfl ?_
            refine O.gskip (t := 83) rfl rfl (no_bool (by rw [h102]; decide)) rfl rfl ?_
            refine O.gskip (t := 83) rfl rfl (no_bool (by rw [h102]; decide)) rfl rfl ?_
            refine O.gskip (t := 83) rfl rfl (no_bool (by rw [h102]; decide)) rfl rfl ?_
            refine O.gskip (t := 83) rfl rfl (no_bool (by rw [h102]; decide)) rfl rfl ?_
            refine O.p (Pu.pickF rfl h102 rfl) rfl ?_
            refine O.nil ?_
            refine J.condF rfl rfl ?_
            refine J.skip ?_
            refine J.seq ?_
            refine J.drawStill Try.mixed (by kernel_rfl) ?_
            refine S.p (Pu.move rfl) rfl ?_
            refine S.p (Pu.move rfl) rfl ?_
            refine S.q (Qt.idxM Try.runUnderlying112 Try.sizeOf116 rfl (Src.ro 0 rfl) rfl (by first | omega | (simp only [List.length_append, List.length_cons, List.length_nil, List.length_set]; omega)) (by first | omega | (simp only [List.length_append, List.length_cons, List.length_nil, List.length_set]; omega))) rfl ?_
            refine S.p (Pu.fieldAddr (off' := voff wv + ((n : Int)).toNat * 7 + 5) Try.runUnderlying116 rfl Try.sizeOf3 rfl rfl rfl) rfl ?_
            refine S.q (Qt.ld rfl (Cel.eltM (Src.ro 0 rfl) he95) (o := (voff wv + n * 7)) (off := 5) (by omega) (Cut.one Try.isAgg3 rfl)) rfl ?_
            refine S.p (Pu.move rfl) rfl ?_
            refine S.p (Pu.move rfl) rfl ?_
            refine S.q (Qt.idxM Try.runUnderlying112 Try.sizeOf116 rfl (Src.ro 0 rfl) rfl (by first | omega | (simp only [List.length_append, List.length_cons, List.length_nil, List.length_set]; omega)) (by first | omega | (simp only [List.length_append, List.length_cons, List.length_nil, List.length_set]; omega))) rfl ?_
            refine S.p (Pu.fieldAddr (off' := voff wv + ((n : Int)).toNat * 7 + 4) Try.runUnderlying116 rfl Try.sizeOf3 rfl rfl rfl) rfl ?_
            refine S.q (Qt.ld rfl (Cel.eltM (Src.ro 0 rfl) he95) (o := (voff wv + n * 7)) (off := 4) (by omega) (Cut.one Try.isAgg3 rfl)) rfl ?_
            refine S.p (Pu.neq rfl rfl) rfl ?_
            refine S.p (Pu.move rfl) rfl ?_
            refine by_bool (decide (e95.on ≠ e95.off)) (fun h114 => ?_) (fun h114 => ?_)
            ·
              have p115 := of_decide_eq_true h114
              refine S.gq (t := 102) rfl rfl h114 rfl (Pu.qt (Pu.move rfl)) rfl ?_
              refine S.gq (t := 102) rfl rfl h114 rfl (Pu.qt (Pu.geq rfl rfl)) rfl ?_
              refine S.p (Pu.pickT rfl h114 rfl) rfl ?_
              refine S.p (Pu.move rfl) rfl ?_
              refine by_bool (decide (0 ≤ di)) (fun h116 => ?_) (fun h116 => ?_)
              ·
                have p117 := of_decide_eq_true h116
                refine S.gq (t := 106) rfl rfl h116 rfl (Pu.qt (Pu.move rfl)) rfl ?_
                refine S.gq (t := 106) rfl rfl h116 rfl (Pu.qt (Pu.move rfl)) rfl ?_
                refine S.gq (t := 106) rfl rfl h116 rfl (Pu.qt (Pu.sub rfl rfl)) rfl ?_
                refine S.gq (t := 106) rfl rfl h116 rfl (Pu.qt (Pu.fieldAddr (off' := 6) Try.runUnderlying42 rfl Try.sizeOf3 rfl rfl rfl)) rfl ?_
                refine S.gq (t := 106) rfl rfl h116 rfl (Qt.ld rfl (Cel.var 0 rfl) (o := 0) (off := 6) rfl (Cut.one Try.isAgg3 rfl)) rfl ?_
                refine S.gq (t := 106) rfl rfl h116 rfl (Pu.qt (Pu.lss rfl rfl)) rfl ?_
                refine S.p (Pu.pickT rfl h116 rfl) rfl ?_
                refine S.p (Pu.assign rfl) rfl ?_
                refine S.endJ ?_
                exact J.ret (Fin.ret (rs := [.tmp 6]) rfl [_] ⟨rfl, trivial⟩ [] (by decide) [] rfl ⟨(by have hk2 : i = n := (by omega); subst hk2; rw [Dw.soonR_at (by assumption), ← hst]; simp [vOf, Dw.soonW, *]), rfl⟩)
              ·
                have p118 := of_decide_eq_false h116
                refine S.gskip (t := 106) rfl rfl (no_bool (by rw [h116]; decide)) rfl rfl ?_
                refine S.gskip (t := 106) rfl rfl (no_bool (by rw [h116]; decide)) rfl rfl ?_
                refine S.gskip (t := 106) rfl rfl (no_bool (by rw [h116]; decide)) rfl rfl ?_
                refine S.gskip (t := 106) rfl rfl (no_bool (by rw [h116]; decide)) rfl rfl ?_
                refine S.gskip (t := 106) rfl rfl (no_bool (by rw [h116]; decide)) rfl rfl ?_
                refine S.gskip (t := 106) rfl rfl (no_bool (by rw [h116]; decide)) rfl rfl ?_
                refine S.p (Pu.pickF rfl h116 rfl) rfl ?_
                refine S.p (Pu.assign rfl) rfl ?_
                refine S.endJ ?_
                exact J.ret (Fin.ret (rs := [.tmp 6]) rfl [_] ⟨rfl, trivial⟩ [] (by decide) [] rfl ⟨(by have hk2 : i = n := (by omega); subst hk2; rw [Dw.soonR_at (by assumption), ← hst]; simp [vOf, Dw.soonW, *]), rfl⟩)
            ·
              have p119 := of_decide_eq_false h114
              refine S.gskip (t := 102) rfl rfl (no_bool (by rw [h114]; decide)) rfl rfl ?_
              refine S.gskip (t := 102) rfl rfl (no_bool (by rw [h114]; decide)) rfl rfl ?_
              refine S.p (Pu.pickF rfl h114 rfl) rfl ?_
              refine S.p (Pu.move rfl) rfl ?_
              refine S.gskip (t := 106) rfl rfl (no_bool (by decide)) rfl rfl ?_
              refine S.gskip (t := 106) rfl rfl (no_bool (by decide)) rfl rfl ?_
              refine S.gskip (t := 106) rfl rfl (no_bool (by decide)) rfl rfl ?_
              refine S.gskip (t := 106) rfl rfl (no_bool (by decide)) rfl rfl ?_
              refine S.gskip (t := 106) rfl rfl (no_bool (by decide)) rfl rfl ?_
              refine S.gskip (t := 106) rfl rfl (no_bool (by decide)) rfl rfl ?_
              refine S.p (Pu.pickF rfl rfl rfl) rfl ?_
              refine S.p (Pu.assign rfl) rfl ?_
              refine S.endJ ?_
              exact J.ret (Fin.ret (rs := [.tmp 6]) rfl [_] ⟨rfl, trivial⟩ [] (by decide) [] rfl ⟨(by have hk2 : i = n := (by omega); subst hk2; rw [Dw.soonR_at (by assumption), ← hst]; simp [vOf, Dw.soonW, *]), rfl⟩)
        ·
          have p120 := of_decide_eq_false h99
          refine O.gskip (t := 74) rfl rfl (no_bool (by rw [h99]; decide)) rfl rfl ?_
          refine O.gskip (t := 74) rfl rfl (no_bool (by rw [h99]; decide)) rfl rfl ?_
          refine O.gskip (t := 74) rfl rfl (no_bool (by rw [h99]; decide)) rfl rfl ?_
          refine O.gskip (t := 74) rfl rfl (no_bool (by rw [h99]; decide)) rfl rfl ?_
          refine O.gskip (t := 74) rfl rfl (no_bool (by rw [h99]; decide)) rfl rfl ?_
          refine O.gskip (t := 74) rfl rfl (no_bool (by rw [h99]; decide)) rfl rfl ?_
          refine O.gskip (t := 74) rfl rfl (no_bool (by rw [h99]; decide)) rfl rfl ?_
          refine O.p (Pu.pickF rfl h99 rfl) rfl ?_
          refine O.p (Pu.move rfl) rfl ?_
          refine O.gskip (t := 83) rfl rfl (no_bool (by decide)) rfl rfl ?_
          refine O.gskip (t := 83) rfl rfl (no_bool (by decide)) rfl rfl ?_
          refine O.gskip (t := 83) rfl rfl (no_bool (by decide)) rfl rfl ?_
          refine O.gskip (t := 83) rfl rfl (no_bool (by decide)) rfl rfl ?_
          refine O.gskip (t := 83) rfl rfl (no_bool (by decide)) rfl rfl ?_
          refine O.gskip (t := 83) rfl rfl (no_bool (by decide)) rfl rfl ?_
          refine O.p (Pu.pickF rfl rfl rfl) rfl ?_
          refine O.nil ?_
          refine J.condF rfl rfl ?_
          refine J.skip ?_
          refine J.seq ?_
          refine J.drawStill Try.mixed (by kernel_rfl) ?_
          refine S.p (Pu.move rfl) rfl ?_
          refine S.p (Pu.move rfl) rfl ?_
          refine S.q (Qt.idxM Try.runUnderlying112 Try.sizeOf116 rfl (Src.ro 0 rfl) rfl (by first | omega | (simp only [List.length_append, List.length_cons, List.length_nil, List.length_set]; omega)) (by first | omega | (simp only [List.length_append, List.length_cons, List.length_nil, List.length_set]; omega))) rfl ?_
          refine S.p (Pu.fieldAddr (off' := voff wv + ((n : Int)).toNat * 7 + 5) Try.runUnderlying116 rfl Try.sizeOf3 rfl rfl rfl) rfl ?_
          refine S.q (Qt.ld rfl (Cel.eltM (Src.ro 0 rfl) he95) (o := (voff wv + n * 7)) (off := 5) (by omega) (Cut.one Try.isAgg3 rfl)) rfl ?_
          refine S.p (Pu.move rfl) rfl ?_
          refine S.p (Pu.move rfl) rfl ?_
          refine S.q (Qt.idxM Try.runUnderlying112 Try.sizeOf116 rfl (Src.ro 0 rfl) rfl (by first | omega | (simp only [List.length_append, List.length_cons, List.length_nil, List.length_set]; omega)) (by first | omega | (simp only [List.length_append, List.length_cons, List.length_nil, List.length_set]; omega))) rfl ?_
          refine S.p (Pu.fieldAddr (off' := voff wv + ((n : Int)).toNat * 7 + 4) Try.runUnderlying116 rfl Try.sizeOf3 rfl rfl rfl) rfl ?_
          refine S.q (Qt.ld rfl (Cel.eltM (Src.ro 0 rfl) he95) (o := (voff wv + n * 7)) (off := 4) (by omega) (Cut.one Try.isAgg3 rfl)) rfl ?_
          refine S.p (Pu.neq rfl rfl) rfl ?_
          refine S.p (Pu.move rfl) rfl ?_
          refine by_bool (decide (e95.on ≠ e95.off)) (fun h121 => ?_) (fun h121 => ?_)
          ·
            have p122 := of_decide_eq_true h121
            refine S.gq (t := 102) rfl rfl h121 rfl (Pu.qt (Pu.move rfl)) rfl ?_
            refine S.gq (t := 102) rfl rfl h121 rfl (Pu.qt (Pu.geq rfl rfl)) rfl ?_
            refine S.p (Pu.pickT rfl h121 rfl) rfl ?_
            refine S.p (Pu.move rfl) rfl ?_
            refine by_bool (decide (0 ≤ di)) (fun h123 => ?_) (fun h123 => ?_)
            ·
              have p124 := of_decide_eq_true h123
              refine S.gq (t := 106) rfl rfl h123 rfl (Pu.qt (Pu.move rfl)) rfl ?_
              refine S.gq (t := 106) rfl rfl h123 rfl (Pu.qt (Pu.move rfl)) rfl ?_
              refine S.gq (t := 106) rfl rfl h123 rfl (Pu.qt (Pu.sub rfl rfl)) rfl ?_
              refine S.gq (t := 106) rfl rfl h123 rfl (Pu.qt (Pu.fieldAddr (off' := 6) Try.runUnderlying42 rfl Try.sizeOf3 rfl rfl rfl)) rfl ?_
              refine S.gq (t := 106) rfl rfl h123 rfl (Qt.ld rfl (Cel.var 0 rfl) (o := 0) (off := 6) rfl (Cut.one Try.isAgg3 rfl)) rfl ?_
              refine S.gq (t := 106) rfl rfl h123 rfl (Pu.qt (Pu.lss rfl rfl)) rfl ?_
              refine S.p (Pu.pickT rfl h123 rfl) rfl ?_
              refine S.p (Pu.assign rfl) rfl ?_
              refine S.endJ ?_
              exact J.ret (Fin.ret (rs := [.tmp 6]) rfl [_] ⟨rfl, trivial⟩ [] (by decide) [] rfl ⟨(by have hk2 : i = n := (by omega); subst hk2; rw [Dw.soonR_at (by assumption), ← hst]; simp [vOf, Dw.soonW, *]), rfl⟩)
            ·
              have p125 := of_decide_eq_false h123
              refine S.gskip (t := 106) rfl rfl (no_bool (by rw [h123]; decide)) rfl rfl ?_
              refine S.gskip (t := 106) rfl rfl (no_bool (by rw [h123]; decide)) rfl rfl ?_
              refine S.gskip (t := 106) rfl rfl (no_bool (by rw [h123]; decide)) rfl rfl ?_
              refine S.gskip (t := 106) rfl rfl (no_bool (by rw [h123]; decide)) rfl rfl ?_
              refine S.gskip (t := 106) rfl rfl (no_bool (by rw [h123]; decide)) rfl rfl ?_
              refine S.gskip (t := 106) rfl rfl (no_bool (by rw [h123]; decide)) rfl rfl ?_
              refine S.p (Pu.pickF rfl h123 rfl) rfl ?_
              refine S.p (Pu.assign rfl) rfl ?_
              refine S.endJ ?_
              exact J.ret (Fin.ret (rs := [.tmp 6]) rfl [_] ⟨rfl, trivial⟩ [] (by decide) [] rfl ⟨(by have hk2 : i = n := (by omega); subst hk2; rw [Dw.soonR_at (by assumption), ← hst]; simp [vOf, Dw.soonW, *]), rfl⟩)
          ·
            have p126 := of_decide_eq_false h121
            refine S.gskip (t := 102) rfl rfl (no_bool (by rw [h121]; decide)) rfl rfl ?_
            refine S.gskip (t := 102) rfl rfl (no_bool (by rw [h121]; decide)) rfl rfl ?_
            refine S.p (Pu.pickF rfl h121 rfl) rfl ?_
            refine S.p (Pu.move rfl) rfl ?_
            refine S.gskip (t := 106) rfl rfl (no_bool (by decide)) rfl rfl ?_
            refine S.gskip (t := 106) rfl rfl (no_bool (by decide)) rfl rfl ?_
            refine S.gskip (t := 106) rfl rfl (no_bool (by decide)) rfl rfl ?_
            refine S.gskip (t := 106) rfl rfl (no_bool (by decide)) rfl rfl ?_
            refine S.gskip (t := 106) rfl rfl (no_bool (by decide)) rfl rfl ?_
            refine S.gskip (t := 106) rfl rfl (no_bool (by decide)) rfl rfl ?_
            refine S.p (Pu.pickF rfl rfl rfl) rfl ?_
            refine S.p (Pu.assign rfl) rfl ?_
            refine S.endJ ?_
            exact J.ret (Fin.ret (rs := [.tmp 6]) rfl [_] ⟨rfl, trivial⟩ [] (by decide) [] rfl ⟨(by have hk2 : i = n := (by omega); subst hk2; rw [Dw.soonR_at (by assumption), ← hst]; simp [vOf, Dw.soonW, *]), rfl⟩)
      ·
        have p127 := of_decide_eq_false h97
        refine O.gskip (t := 70) rfl rfl (no_bool (by rw [h97]; decide)) rfl rfl ?_
        refine O.gskip (t := 70) rfl rfl (no_bool (by rw [h97]; decide)) rfl rfl ?_
        refine O.p (Pu.pickF rfl h97 rfl) rfl ?_
        refine O.p (Pu.move rfl) rfl ?_
        refine O.gskip (t := 74) rfl rfl (no_bool (by decide)) rfl rfl ?_
        refine O.gskip (t := 74) rfl rfl (no_bool (by decide)) rfl rfl ?_
        refine O.gskip (t := 74) rfl rfl (no_bool (by decide)) rfl rfl ?_
        refine O.gskip (t := 74) rfl rfl (no_bool (by decide)) rfl rfl ?_
        refine O.gskip (t := 74) rfl rfl (no_bool (by decide)) rfl rfl ?_
        refine O.gskip (t := 74) rfl rfl (no_bool (by decide)) rfl rfl ?_
        refine O.gskip (t := 74) rfl rfl (no_bool (by decide)) rfl rfl ?_
        refine O.p (Pu.pickF rfl rfl rfl) rfl ?_
        refine O.p (Pu.move rfl) rfl ?_
        refine O.gskip (t := 83) rfl rfl (no_bool (by decide)) rfl rfl ?_
        refine O.gskip (t := 83) rfl rfl (no_bool (by decide)) rfl rfl ?_
        refine O.gskip (t := 83) rfl rfl (no_bool (by decide)) rfl rfl ?_
        refine O.gskip (t := 83) rfl rfl (no_bool (by decide)) rfl rfl ?_
        refine O.gskip (t := 83) rfl rfl (no_bool (by decide)) rfl rfl ?_
        refine O.gskip (t := 83) rfl rfl (no_bool (by decide)) rfl rfl ?_
        refine O.p (Pu.pickF rfl rfl rfl) rfl ?_
        refine O.nil ?_
        refine J.condF rfl rfl ?_
        refine J.skip ?_
        refine J.seq ?_
        refine J.drawStill Try.mixed (by kernel_rfl) ?_
        refine S.p (Pu.move rfl) rfl ?_
        refine S.p (Pu.move rfl) rfl ?_
        refine S.q (Qt.idxM Try.runUnderlying112 Try.sizeOf116 rfl (Src.ro 0 rfl) rfl (by first | omega | (simp only [List.length_append, List.length_cons, List.length_nil, List.length_set]; omega)) (by first | omega | (simp only [List.length_append, List.length_cons, List.length_nil, List.length_set]; omega))) rfl ?_
        refine S.p (Pu.fieldAddr (off' := voff wv + ((n : Int)).toNat * 7 + 5) Try.runUnderlying116 rfl Try.sizeOf3 rfl rfl rfl) rfl ?_
        refine S.q (Qt.ld rfl (Cel.eltM (Src.ro 0 rfl) he95) (o := (voff wv + n * 7)) (off := 5) (by omega) (Cut.one Try.isAgg3 rfl)) rfl ?_
        refine S.p (Pu.move rfl) rfl ?_
        refine S.p (Pu.move rfl) rfl ?_
        refine S.q (Qt.idxM Try.runUnderlying112 Try.sizeOf116 rfl (Src.ro 0 rfl) rfl (by first | omega | (simp only [List.length_append, List.length_cons, List.length_nil, List.length_set]; omega)) (by first | omega | (simp only [List.length_append, List.length_cons, List.length_nil, List.length_set]; omega))) rfl ?_
        refine S.p (Pu.fieldAddr (off' := voff wv + ((n : Int)).toNat * 7 + 4) Try.runUnderlying116 rfl Try.sizeOf3 rfl rfl rfl) rfl ?_
        refine S.q (Qt.ld rfl (Cel.eltM (Src.ro 0 rfl) he95) (o := (voff wv + n * 7)) (off := 4) (by omega) (Cut.one Try.isAgg3 rfl)) rfl ?_
        refine S.p (Pu.neq rfl rfl) rfl ?_
        refine S.p (Pu.move rfl) rfl ?_
        refine by_bool (decide (e95.on ≠ e95.off)) (fun h128 => ?_) (fun h128 => ?_)
        ·
          have p129 := of_decide_eq_true h128
          refine S.gq (t := 102) rfl rfl h128 rfl (Pu.qt (Pu.move rfl)) rfl ?_
          refine S.gq (t := 102) rfl rfl h128 rfl (Pu.qt (Pu.geq rfl rfl)) rfl ?_
          refine S.p (Pu.pickT rfl h128 rfl) rfl ?_
          refine S.p (Pu.move rfl) rfl ?_
          refine by_bool (decide (0 ≤ di)) (fun h130 => ?_) (fun h130 => ?_)
          ·
            have p131 := of_decide_eq_true h130
            refine S.gq (t := 106) rfl rfl h130 rfl (Pu.qt (Pu.move rfl)) rfl ?_
            refine S.gq (t := 106) rfl rfl h130 rfl (Pu.qt (Pu.move rfl)) rfl ?_
            refine S.gq (t := 106) rfl rfl h130 rfl (Pu.qt (Pu.sub rfl rfl)) rfl ?_
            refine S.gq (t := 106) rfl rfl h130 rfl (Pu.qt (Pu.fieldAddr (off' := 6) Try.runUnderlying42 rfl Try.sizeOf3 rfl rfl rfl)) rfl ?_
            refine S.gq (t := 106) rfl rfl h130 rfl (Qt.ld rfl (Cel.var 0 rfl) (o := 0) (off := 6) rfl (Cut.one Try.isAgg3 rfl)) rfl ?_
            refine S.gq (t := 106) rfl rfl h130 rfl (Pu.qt (Pu.lss rfl rfl)) rfl ?_
            refine S.p (Pu.pickT rfl h130 rfl) rfl ?_
            refine S.p (Pu.assign rfl) rfl ?_
            refine S.endJ ?_
            exact J.ret (Fin.ret (rs := [.tmp 6]) rfl [_] ⟨rfl, trivial⟩ [] (by decide) [] rfl ⟨(by have hk2 : i = n := (by omega); subst hk2; rw [Dw.soonR_at (by assumption), ← hst]; simp [vOf, Dw.soonW, *]), rfl⟩)
          ·
            have p132 := of_decide_eq_false h130
            refine S.gskip (t := 106) rfl rfl (no_bool (by rw [h130]; decide)) rfl rfl ?_
            refine S.gskip (t := 106) rfl rfl (no_bool (by rw [h130]; decide)) rfl rfl ?_
            refine S.gskip (t := 106) rfl rfl (no_bool (by rw [h130]; decide)) rfl rfl ?_
            refine S.gskip (t := 106) rfl rfl (no_bool (by rw [h130]; decide)) rfl rfl ?_
            refine S.gskip (t := 106) rfl rfl (no_bool (by rw [h130]; decide)) rfl rfl ?_
            refine S.gskip (t := 106) rfl rfl (no_bool (by rw [h130]; decide)) rfl rfl ?_
            refine S.p (Pu.pickF rfl h130 rfl) rfl ?_
            refine S.p (Pu.assign rfl) rfl ?_
            refine S.endJ ?_
            exact J.ret (Fin.ret (rs := [.tmp 6]) rfl [_] ⟨rfl, trivial⟩ [] (by decide) [] rfl ⟨(by have hk2 : i = n := (by omega); subst hk2; rw [Dw.soonR_at (by assumption), ← hst]; simp [vOf, Dw.soonW, *]), rfl⟩)
        ·
          have p133 := of_decide_eq_false h128
          refine S.gskip (t := 102) rfl rfl (no_bool (by rw [h128]; decide)) rfl rfl ?_
          refine S.gskip (t := 102) rfl rfl (no_bool (by rw [h128]; decide)) rfl rfl ?_
          refine S.p (Pu.pickF rfl h128 rfl) rfl ?_
          refine S.p (Pu.move rfl) rfl ?_
          refine S.gskip (t := 106) rfl rfl (no_bool (by decide)) rfl rfl ?_
          refine S.gskip (t := 106) rfl rfl (no_bool (by decide)) rfl rfl ?_
          refine S.gskip (t := 106) rfl rfl (no_bool (by decide)) rfl rfl ?_
          refine S.gskip (t := 106) rfl rfl (no_bool (by decide)) rfl rfl ?_
          refine S.gskip (t := 106) rfl rfl (no_bool (by decide)) rfl rfl ?_
          refine S.gskip (t := 106) rfl rfl (no_bool (by decide)) rfl rfl ?_
          refine S.p (Pu.pickF rfl rfl rfl) rfl ?_
          refine S.p (Pu.assign rfl) rfl ?_
          refine S.endJ ?_
          exact J.ret (Fin.ret (rs := [.tmp 6]) rfl [_] ⟨rfl, trivial⟩ [] (by decide) [] rfl ⟨(by have hk2 : i = n := (by omega); subst hk2; rw [Dw.soonR_at (by assumption), ← hst]; simp [vOf, Dw.soonW, *]), rfl⟩)

set_option maxRecDepth 100000 in
theorem r44_Wrong (s lv ti : Int) (x : Kn) (ev_ : Value) (l : List Ev) (hl : l.length ≤ 100000) (hti : Dw.B64 ti) (hlb : ∀ e ∈ l, Dw.B64 e.b) : Tri Try.prog 19 #[.int .i64 s, .int .i64 lv, .int .i64 ti, .agg #[.int .i64 x.low, .int .i64 x.high, .int .i64 x.cut, .int .i64 x.lift, .int .i64 x.floor, .int .i64 x.turn, .int .i64 x.dwell], ev_] [rd ev_ 7 (l.map Ev.cells)] [] (fun v L' => v = .tuple #[.agg #[.int .i64 (((Dw.ws s lv ti x l).fst).at_), .int .i64 (((Dw.ws s lv ti x l).fst).way), .int .i64 (((Dw.ws s lv ti x l).fst).tier)], .bool (Dw.ws s lv ti x l).found] ∧ L' = []) := by
  have hwl : (Dw.wins s lv ti l).length ≤ l.length := Dw.wins_len s lv ti l l.length
  refine Tri.enter (args := [.int .i64 s, .int .i64 lv, .int .i64 ti, .agg #[.int .i64 x.low, .int .i64 x.high, .int .i64 x.cut, .int .i64 x.lift, .int .i64 x.floor, .int .i64 x.turn, .int .i64 x.dwell], ev_]) (body := _) 52 Try.func19 rfl Try.ntmps19 rfl ?_
  intro w0
  refine J.seq ?_
  refine J.region ?_
  refine O.l (Lo.box [.int .i64 x.low, .int .i64 x.high, .int .i64 x.cut, .int .i64 x.lift, .int .i64 x.floor, .int .i64 x.turn, .int .i64 x.dwell] rfl rfl) rfl ?_
  rintro _ _ ⟨g1, rfl, rfl⟩
  refine O.l (Lo.alloc [.int .i64 0, .int .i64 0, .int .i64 0] (by exact Try.zeroValue44) rfl) rfl ?_
  rintro _ _ ⟨g2, rfl, rfl⟩
  refine O.p (Pu.assign rfl) rfl ?_
  refine O.nil ?_
  refine J.seq ?_
  refine J.region ?_
  refine O.p (Pu.move rfl) rfl ?_
  refine O.p (Pu.move rfl) rfl ?_
  refine O.p (Pu.move rfl) rfl ?_
  refine O.p (Pu.move rfl) rfl ?_
  refine O.l (Lo.call [.int .i64 s, .int .i64 lv, .int .i64 ti, ev_] (by exact Try.call63) rfl (r44_Wins s lv ti ev_ l (by omega)) [] [0, 1] (by decide) rfl _ rfl (RoOk.ro 0 rfl [] rfl RoOk.nil)) rfl ?_
  rintro v3 _ ⟨_, rfl, rfl⟩
  refine O.p (Pu.assign rfl) rfl ?_
  refine O.nil ?_
  refine J.seq ?_
  refine J.seq ?_
  refine J.region ?_
  refine O.p (Pu.assign rfl) rfl ?_
  refine O.nil ?_
  refine J.block ?_
  refine J.loop (X := Nat) (fun ξ => ξ ≤ (Dw.wins s lv ti l).length ∧ ∀ j, j < ξ → Dw.soonR (Dw.wins s lv ti l) x j = false) (fun ξ => [(8, .pointer (some ⟨g1, 0, none⟩)), (10, .pointer (some ⟨g2, 0, none⟩)), (12, v3), (13, .int .i64 (ξ : Int))]) (fun ξ => [row v3 116 7 ((Dw.wins s lv ti l).map Win.cells), var g2 [.int .i64 0, .int .i64 0, .int .i64 0] 44, var g1 [.int .i64 x.low, .int .i64 x.high, .int .i64 x.cut, .int .i64 x.lift, .int .i64 x.floor, .int .i64 x.turn, .int .i64 x.dwell] 42]) (fun ξ => (Dw.wins s lv ti l).length - ξ) 0 (show 0 ≤ (Dw.wins s lv ti l).length ∧ ∀ j, j < 0 → Dw.soonR (Dw.wins s lv ti l) x j = false from ⟨by omega, fun _ h => absurd h (by omega)⟩) ⟨rfl, rfl, rfl, (congrArg (fun z => some (Value.int .i64 z)) (by first | rfl | omega : (0 : Int) = (0 : Int))), trivial⟩ [0, 1, 2] (by decide) rfl ?_
  rintro k hq4
  obtain ⟨hk, hno⟩ : k ≤ (Dw.wins s lv ti l).length ∧ ∀ j, j < k → Dw.soonR (Dw.wins s lv ti l) x j = false := hq4
  show J _ _ [(8, .pointer (some ⟨g1, 0, none⟩)), (10, .pointer (some ⟨g2, 0, none⟩)), (12, v3), (13, .int .i64 (k : Int))] [row v3 116 7 ((Dw.wins s lv ti l).map Win.cells), var g2 [.int .i64 0, .int .i64 0, .int .i64 0] 44, var g1 [.int .i64 x.low, .int .i64 x.high, .int .i64 x.cut, .int .i64 x.lift, .int .i64 x.floor, .int .i64 x.turn, .int .i64 x.dwell] 42]
  refine J.seq ?_
  refine J.seq ?_
  refine J.region ?_
  refine O.p (Pu.move rfl) rfl ?_
  refine O.p (Pu.move rfl) rfl ?_
  refine O.q (Qt.lenM Try.runUnderlying112 rfl (Src.row 0 rfl)) rfl ?_
  refine O.p (Pu.lss rfl rfl) rfl ?_
  refine O.nil ?_
  refine J.cond rfl (fun h5 => ?_) (fun h5 => ?_)
  ·
    have p6 := of_decide_eq_true h5
    refine J.skip ?_
    refine J.seq ?_
    refine J.block ?_
    refine J.seq ?_
    refine J.region ?_
    refine O.p (Pu.move rfl) rfl ?_
    refine O.p (Pu.move rfl) rfl ?_
    refine O.q (Qt.ld rfl (Cel.var 2 rfl) (o := 0) (off := 0) rfl (Cut.agg [.int .i64 x.low, .int .i64 x.high, .int .i64 x.cut, .int .i64 x.lift, .int .i64 x.floor, .int .i64 x.turn, .int .i64 x.dwell] Try.isAgg42 Try.sizeOf42 rfl rfl)) rfl ?_
    refine O.l (Lo.call [v3, .int .i64 (k : Int), .agg #[.int .i64 x.low, .int .i64 x.high, .int .i64 x.cut, .int .i64 x.lift, .int .i64 x.floor, .int .i64 x.turn, .int .i64 x.dwell]] (by exact Try.call64) rfl (r44_soon v3 (Dw.wins s lv ti l) k x (by omega) (by omega)) [] [0, 1, 2] (by decide) rfl _ rfl (RoOk.of 0 rfl row_rd [] (by decide) rfl RoOk.nil)) rfl ?_
    rintro _ _ ⟨_, ⟨rfl, rfl⟩, rfl⟩
    refine O.nil ?_
    refine J.cond rfl (fun h8 => ?_) (fun h8 => ?_)
    ·
      refine J.seq ?_
      refine J.drawHead 22 Try.mixed (by kernel_rfl) ?_
      refine Hd.p (Pu.move rfl) rfl ?_
      refine Hd.p (Pu.move rfl) rfl ?_
      obtain ⟨e9, he9⟩ : ∃ e, (Dw.wins s lv ti l)[k]? = some e := ⟨_, List.getElem?_eq_getElem (by first | omega | (simp only [List.length_append, List.length_cons, List.length_nil, List.length_set]; omega))⟩
      refine Hd.q (Qt.idxM Try.runUnderlying112 Try.sizeOf116 rfl (Src.row 0 rfl) rfl (by first | omega | (simp only [List.length_append, List.length_cons, List.length_nil, List.length_set]; omega)) (by first | omega | (simp only [List.length_append, List.length_cons, List.length_nil, List.length_set]; omega))) rfl ?_
      refine Hd.p (Pu.fieldAddr (off' := voff v3 + ((k : Int)).toNat * 7 + 0) Try.runUnderlying116 rfl Try.sizeOf3 rfl rfl rfl) rfl ?_
      refine Hd.q (Qt.ld rfl (Cel.eltM (Src.row 0 rfl) he9) (o := (voff v3 + k * 7)) (off := 0) (by omega) (Cut.one Try.isAgg3 rfl)) rfl ?_
      refine Hd.p (Pu.move rfl) rfl ?_
      refine Hd.p (Pu.move rfl) rfl ?_
      refine Hd.q (Qt.idxM Try.runUnderlying112 Try.sizeOf116 rfl (Src.row 0 rfl) rfl (by first | omega | (simp only [List.length_append, List.length_cons, List.length_nil, List.length_set]; omega)) (by first | omega | (simp only [List.length_append, List.length_cons, List.length_nil, List.length_set]; omega))) rfl ?_
      refine Hd.q (Qt.ld rfl (Cel.eltM (Src.row 0 rfl) he9) (o := (voff v3 + k * 7)) (off := 0) (by omega) (Cut.agg [.int .i64 e9.at_, .int .i64 e9.no, .int .i64 e9.was, .int .i64 e9.is_, .int .i64 e9.off, .int .i64 e9.on, .bool e9.first] Try.isAgg116 Try.sizeOf116 rfl rfl)) rfl ?_
      refine Hd.call (vs := [.agg #[.int .i64 e9.at_, .int .i64 e9.no, .int .i64 e9.was, .int .i64 e9.is_, .int .i64 e9.off, .int .i64 e9.on, .bool e9.first]]) (caps := []) (by exact Try.call65) rfl rfl (r44_way e9) (fun _ _ h => h) RoOk.nil rfl ?_
      refine Hd.p (Pu.move rfl) rfl ?_
      refine Hd.p (Pu.move rfl) rfl ?_
      refine Hd.q (Qt.idxM Try.runUnderlying112 Try.sizeOf116 rfl (Src.row 0 rfl) rfl (by first | omega | (simp only [List.length_append, List.length_cons, List.length_nil, List.length_set]; omega)) (by first | omega | (simp only [List.length_append, List.length_cons, List.length_nil, List.length_set]; omega))) rfl ?_
      refine Hd.p (Pu.fieldAddr (off' := voff v3 + ((k : Int)).toNat * 7 + 5) Try.runUnderlying116 rfl Try.sizeOf3 rfl rfl rfl) rfl ?_
      refine Hd.q (Qt.ld rfl (Cel.eltM (Src.row 0 rfl) he9) (o := (voff v3 + k * 7)) (off := 5) (by omega) (Cut.one Try.isAgg3 rfl)) rfl ?_
      refine Hd.p (Pu.move rfl) rfl ?_
      refine Hd.p (Pu.move rfl) rfl ?_
      refine Hd.q (Qt.idxM Try.runUnderlying112 Try.sizeOf116 rfl (Src.row 0 rfl) rfl (by first | omega | (simp only [List.length_append, List.length_cons, List.length_nil, List.length_set]; omega)) (by first | omega | (simp only [List.length_append, List.length_cons, List.length_nil, List.length_set]; omega))) rfl ?_
      refine Hd.p (Pu.fieldAddr (off' := voff v3 + ((k : Int)).toNat * 7 + 4) Try.runUnderlying116 rfl Try.sizeOf3 rfl rfl rfl) rfl ?_
      refine Hd.q (Qt.ld rfl (Cel.eltM (Src.row 0 rfl) he9) (o := (voff v3 + k * 7)) (off := 4) (by omega) (Cut.one Try.isAgg3 rfl)) rfl ?_
      refine Hd.p (Pu.sub rfl rfl) rfl ?_
      refine Hd.p (Pu.build [(0, .int .i64 e9.at_), (1, .int .i64 (Dw.way e9)), (2, .int .i64 (IntKind.i64.wrap (e9.on - e9.off)))] [.int .i64 e9.at_, .int .i64 (Dw.way e9), .int .i64 (IntKind.i64.wrap (e9.on - e9.off))] #[(0, 1), (1, 1), (2, 1)] Try.runUnderlying44 Try.zeroValue44 (places44 Try.underlying44) rfl (by kernel_rfl)) rfl ?_
      refine Hd.nil ?_
      refine O.l0 (Lo.store 1 (vs := [.int .i64 e9.at_, .int .i64 (Dw.way e9), .int .i64 (IntKind.i64.wrap (e9.on - e9.off))]) [.int .i64 e9.at_, .int .i64 (Dw.way e9), .int .i64 (IntKind.i64.wrap (e9.on - e9.off))] rfl rfl rfl (by exact Try.sizeOf44) rfl rfl rfl rfl rfl) ?_
      rintro _ _ rfl
      refine O.p (Pu.assign rfl) rfl ?_
      refine O.nil ?_
      exact J.ret (Fin.ret (rs := [.cell 10 44, .tmp 11]) rfl [_, _] ⟨⟨_, _, 0, 0, _, rfl, (Cel.var 1 rfl), rfl, (Cut.agg [.int .i64 e9.at_, .int .i64 (Dw.way e9), .int .i64 (IntKind.i64.wrap (e9.on - e9.off))] Try.isAgg44 Try.sizeOf44 rfl rfl)⟩, rfl, trivial⟩ [] (by decide) [] rfl ⟨(by rw [Dw.ws_at hti hlb hno (by assumption) (by assumption)]; rfl), rfl⟩)
    ·
      refine J.skip ?_
      refine J.blk ?_
      refine J.region ?_
      refine O.p (Pu.move rfl) rfl ?_
      refine O.p (Pu.add' rfl rfl (by first | omega | (simp only [List.length_append, List.length_cons, List.length_nil, List.length_set]; omega))) rfl ?_
      refine O.p (Pu.assign rfl) rfl ?_
      refine O.nil ?_
      exact J.lp (k + 1) (show (k + 1) ≤ (Dw.wins s lv ti l).length ∧ ∀ j, j < (k + 1) → Dw.soonR (Dw.wins s lv ti l) x j = false from ⟨by omega, Dw.soon_next hno (by assumption)⟩) (show (Dw.wins s lv ti l).length - (k + 1) < (Dw.wins s lv ti l).length - k from (by first | omega | (simp only [List.length_append, List.length_cons, List.length_nil, List.length_set]; omega))) ⟨rfl, rfl, rfl, (congrArg (fun z => some (Value.int .i64 z)) (by first | rfl | omega : ((k : Int) + 1 : Int) = ((k + 1) : Int))), trivial⟩ [0, 1, 2] (by decide) rfl
  ·
    have p10 := of_decide_eq_false h5
    refine J.exit _ rfl ?_
    refine J.seq ?_
    refine J.region ?_
    refine O.p (Pu.build [] [.int .i64 0, .int .i64 0, .int .i64 0] #[(0, 1), (1, 1), (2, 1)] Try.runUnderlying44 Try.zeroValue44 (places44 Try.underlying44) rfl (by kernel_rfl)) rfl ?_
    refine O.l0 (Lo.store 1 (vs := [.int .i64 0, .int .i64 0, .int .i64 0]) [.int .i64 0, .int .i64 0, .int .i64 0] rfl rfl rfl (by exact Try.sizeOf44) rfl rfl rfl rfl rfl) ?_
    rintro _ _ rfl
    refine O.p (Pu.assign rfl) rfl ?_
    refine O.nil ?_
    exact J.ret (Fin.ret (rs := [.cell 10 44, .tmp 11]) rfl [_, _] ⟨⟨_, _, 0, 0, _, rfl, (Cel.var 1 rfl), rfl, (Cut.agg [.int .i64 0, .int .i64 0, .int .i64 0] Try.isAgg44 Try.sizeOf44 rfl rfl)⟩, rfl, trivial⟩ [] (by decide) [] rfl ⟨(by rw [Dw.ws_no hti hlb (fun j hj => hno j (by omega))]; rfl), rfl⟩)

set_option maxRecDepth 100000 in
theorem r44_Windows (s : Int) (ev_ : Value) (l : List Ev) (hl : l.length ≤ 100000) : Tri Try.prog 24 #[.int .i64 s, ev_] [rd ev_ 7 (l.map Ev.cells)] [] (fun v L' => v = .int .i64 (Dw.windows s l) ∧ L' = []) := by
  refine Tri.enter (args := [.int .i64 s, ev_]) (body := _) 46 Try.func24 rfl Try.ntmps24 rfl ?_
  intro w0
  refine J.seq ?_
  refine J.region ?_
  refine O.p (Pu.assign rfl) rfl ?_
  refine O.nil ?_
  refine J.seq ?_
  refine J.region ?_
  refine O.p (Pu.assign rfl) rfl ?_
  refine O.nil ?_
  refine J.seq ?_
  refine J.seq ?_
  refine J.region ?_
  refine O.p (Pu.assign rfl) rfl ?_
  refine O.nil ?_
  refine J.block ?_
  refine J.loop (X := Nat × Int) (fun ξ => ξ.1 ≤ l.length ∧ ξ.2 = upI (Dw.winF s) 0 l ξ.1 ∧ (0 : Int) ≤ ξ.2 ∧ ξ.2 ≤ (ξ.1 : Int)) (fun ξ => [(0, .int .i64 s), (1, ev_), (4, .int .i64 0), (5, .int .i64 ξ.2), (6, .int .i64 (ξ.1 : Int))]) (fun ξ => []) (fun ξ => l.length - ξ.1) ⟨0, 0⟩ (show 0 ≤ l.length ∧ 0 = upI (Dw.winF s) 0 l 0 ∧ (0 : Int) ≤ 0 ∧ 0 ≤ (0 : Int) from ⟨by omega, rfl, by omega, by simp⟩) ⟨rfl, rfl, rfl, rfl, (congrArg (fun z => some (Value.int .i64 z)) (by first | rfl | omega : (0 : Int) = (0 : Int))), trivial⟩ [] (by decide) rfl ?_
  rintro ⟨k, n⟩ hq1
  obtain ⟨hk, hst, hn0, hn1⟩ : k ≤ l.length ∧ n = upI (Dw.winF s) 0 l k ∧ (0 : Int) ≤ n ∧ n ≤ (k : Int) := hq1
  show J _ _ [(0, .int .i64 s), (1, ev_), (4, .int .i64 0), (5, .int .i64 n), (6, .int .i64 (k : Int))] []
  refine J.seq ?_
  refine J.seq ?_
  refine J.region ?_
  refine O.p (Pu.move rfl) rfl ?_
  refine O.p (Pu.move rfl) rfl ?_
  refine O.q (Qt.lenM Try.runUnderlying22 rfl (Src.ro 0 rfl)) rfl ?_
  refine O.p (Pu.lss rfl rfl) rfl ?_
  refine O.nil ?_
  refine J.cond rfl (fun h2 => ?_) (fun h2 => ?_)
  ·
    have p3 := of_decide_eq_true h2
    refine J.skip ?_
    refine J.seq ?_
    refine J.block ?_
    refine J.seq ?_
    refine J.seq ?_
    refine J.region ?_
    refine O.p (Pu.move rfl) rfl ?_
    refine O.p (Pu.move rfl) rfl ?_
    obtain ⟨e4, he4⟩ : ∃ e, l[k]? = some e := ⟨_, List.getElem?_eq_getElem (by first | omega | (simp only [List.length_append, List.length_cons, List.length_nil, List.length_set]; omega))⟩
    refine O.q (Qt.idxM Try.runUnderlying22 Try.sizeOf93 rfl (Src.ro 0 rfl) rfl (by first | omega | (simp only [List.length_append, List.length_cons, List.length_nil, List.length_set]; omega)) (by first | omega | (simp only [List.length_append, List.length_cons, List.length_nil, List.length_set]; omega))) rfl ?_
    refine O.p (Pu.fieldAddr (off' := voff ev_ + ((k : Int)).toNat * 7 + 2) Try.runUnderlying93 rfl Try.sizeOf3 rfl rfl rfl) rfl ?_
    refine O.q (Qt.ld rfl (Cel.eltM (Src.ro 0 rfl) he4) (o := (voff ev_ + k * 7)) (off := 2) (by omega) (Cut.one Try.isAgg3 rfl)) rfl ?_
    refine O.p (Pu.move rfl) rfl ?_
    refine O.p (Pu.eql rfl rfl) rfl ?_
    refine O.p (Pu.move rfl) rfl ?_
    refine by_bool (decide (e4.s = s)) (fun h5 => ?_) (fun h5 => ?_)
    ·
      have p6 := of_decide_eq_true h5
      refine O.gq (t := 20) rfl rfl h5 rfl (Pu.qt (Pu.move rfl)) rfl ?_
      refine O.gq (t := 20) rfl rfl h5 rfl (Pu.qt (Pu.move rfl)) rfl ?_
      refine O.gq (t := 20) rfl rfl h5 rfl (Qt.idxM Try.runUnderlying22 Try.sizeOf93 rfl (Src.ro 0 rfl) rfl (by first | omega | (simp only [List.length_append, List.length_cons, List.length_nil, List.length_set]; omega)) (by first | omega | (simp only [List.length_append, List.length_cons, List.length_nil, List.length_set]; omega))) rfl ?_
      refine O.gq (t := 20) rfl rfl h5 rfl (Pu.qt (Pu.fieldAddr (off' := voff ev_ + ((k : Int)).toNat * 7 + 0) Try.runUnderlying93 rfl Try.sizeOf3 rfl rfl rfl)) rfl ?_
      refine O.gq (t := 20) rfl rfl h5 rfl (Qt.ld rfl (Cel.eltM (Src.ro 0 rfl) he4) (o := (voff ev_ + k * 7)) (off := 0) (by omega) (Cut.one Try.isAgg3 rfl)) rfl ?_
      refine O.gq (t := 20) rfl rfl h5 rfl (Pu.qt (Pu.eql rfl rfl)) rfl ?_
      refine O.p (Pu.pickT rfl h5 rfl) rfl ?_
      refine O.nil ?_
      refine J.cond rfl (fun h7 => ?_) (fun h7 => ?_)
      ·
        have p8 := of_decide_eq_true h7
        refine J.region ?_
        refine O.p (Pu.assign rfl) rfl ?_
        refine O.nil ?_
        refine J.seq ?_
        refine J.region ?_
        refine O.p (Pu.move rfl) rfl ?_
        refine O.p (Pu.move rfl) rfl ?_
        refine O.q (Qt.idxM Try.runUnderlying22 Try.sizeOf93 rfl (Src.ro 0 rfl) rfl (by first | omega | (simp only [List.length_append, List.length_cons, List.length_nil, List.length_set]; omega)) (by first | omega | (simp only [List.length_append, List.length_cons, List.length_nil, List.length_set]; omega))) rfl ?_
        refine O.p (Pu.fieldAddr (off' := voff ev_ + ((k : Int)).toNat * 7 + 2) Try.runUnderlying93 rfl Try.sizeOf3 rfl rfl rfl) rfl ?_
        refine O.q (Qt.ld rfl (Cel.eltM (Src.ro 0 rfl) he4) (o := (voff ev_ + k * 7)) (off := 2) (by omega) (Cut.one Try.isAgg3 rfl)) rfl ?_
        refine O.p (Pu.move rfl) rfl ?_
        refine O.p (Pu.eql rfl rfl) rfl ?_
        refine O.p (Pu.move rfl) rfl ?_
        refine O.gq (t := 35) rfl rfl h5 rfl (Pu.qt (Pu.move rfl)) rfl ?_
        refine O.gq (t := 35) rfl rfl h5 rfl (Pu.qt (Pu.move rfl)) rfl ?_
        refine O.gq (t := 35) rfl rfl h5 rfl (Qt.idxM Try.runUnderlying22 Try.sizeOf93 rfl (Src.ro 0 rfl) rfl (by first | omega | (simp only [List.length_append, List.length_cons, List.length_nil, List.length_set]; omega)) (by first | omega | (simp only [List.length_append, List.length_cons, List.length_nil, List.length_set]; omega))) rfl ?_
        refine O.gq (t := 35) rfl rfl h5 rfl (Pu.qt (Pu.fieldAddr (off' := voff ev_ + ((k : Int)).toNat * 7 + 0) Try.runUnderlying93 rfl Try.sizeOf3 rfl rfl rfl)) rfl ?_
        refine O.gq (t := 35) rfl rfl h5 rfl (Qt.ld rfl (Cel.eltM (Src.ro 0 rfl) he4) (o := (voff ev_ + k * 7)) (off := 0) (by omega) (Cut.one Try.isAgg3 rfl)) rfl ?_
        refine O.gq (t := 35) rfl rfl h5 rfl (Pu.qt (Pu.eql rfl rfl)) rfl ?_
        refine O.p (Pu.pickT rfl h5 rfl) rfl ?_
        refine O.nil ?_
        refine J.cond rfl (fun h9 => ?_) (fun h9 => ?_)
        ·
          have p10 := of_decide_eq_true h9
          refine J.region ?_
          refine O.p (Pu.move rfl) rfl ?_
          refine O.p (Pu.add' rfl rfl (by first | omega | (simp only [List.length_append, List.length_cons, List.length_nil, List.length_set]; omega))) rfl ?_
          refine O.p (Pu.assign rfl) rfl ?_
          refine O.nil ?_
          refine J.blk ?_
          refine J.region ?_
          refine O.p (Pu.move rfl) rfl ?_
          refine O.p (Pu.add' rfl rfl (by first | omega | (simp only [List.length_append, List.length_cons, List.length_nil, List.length_set]; omega))) rfl ?_
          refine O.p (Pu.assign rfl) rfl ?_
          refine O.nil ?_
          exact J.lp ⟨k + 1, 0 + 1⟩ (show (k + 1) ≤ l.length ∧ (0 + 1) = upI (Dw.winF s) 0 l (k + 1) ∧ (0 : Int) ≤ (0 + 1) ∧ (0 + 1) ≤ ((k + 1) : Int) from ⟨by omega, (by rw [upI_succ (by assumption), ← hst]; clear hst; simp_all [Dw.winF]), by omega, by omega⟩) (show l.length - (k + 1) < l.length - k from (by first | omega | (simp only [List.length_append, List.length_cons, List.length_nil, List.length_set]; omega))) ⟨rfl, rfl, rfl, rfl, (congrArg (fun z => some (Value.int .i64 z)) (by first | rfl | omega : ((k : Int) + 1 : Int) = ((k + 1) : Int))), trivial⟩ [] (by decide) rfl
        ·
          have p11 := of_decide_eq_false h9
          refine J.skip ?_
          refine J.blk ?_
          refine J.region ?_
          refine O.p (Pu.move rfl) rfl ?_
          refine O.p (Pu.add' rfl rfl (by first | omega | (simp only [List.length_append, List.length_cons, List.length_nil, List.length_set]; omega))) rfl ?_
          refine O.p (Pu.assign rfl) rfl ?_
          refine O.nil ?_
          exact J.lp ⟨k + 1, 0⟩ (show (k + 1) ≤ l.length ∧ 0 = upI (Dw.winF s) 0 l (k + 1) ∧ (0 : Int) ≤ 0 ∧ 0 ≤ ((k + 1) : Int) from ⟨by omega, (by rw [upI_succ (by assumption), ← hst]; clear hst; simp_all [Dw.winF]), by omega, by omega⟩) (show l.length - (k + 1) < l.length - k from (by first | omega | (simp only [List.length_append, List.length_cons, List.length_nil, List.length_set]; omega))) ⟨rfl, rfl, rfl, rfl, (congrArg (fun z => some (Value.int .i64 z)) (by first | rfl | omega : ((k : Int) + 1 : Int) = ((k + 1) : Int))), trivial⟩ [] (by decide) rfl
      ·
        have p12 := of_decide_eq_false h7
        refine J.skip ?_
        refine J.seq ?_
        refine J.region ?_
        refine O.p (Pu.move rfl) rfl ?_
        refine O.p (Pu.move rfl) rfl ?_
        refine O.q (Qt.idxM Try.runUnderlying22 Try.sizeOf93 rfl (Src.ro 0 rfl) rfl (by first | omega | (simp only [List.length_append, List.length_cons, List.length_nil, List.length_set]; omega)) (by first | omega | (simp only [List.length_append, List.length_cons, List.length_nil, List.length_set]; omega))) rfl ?_
        refine O.p (Pu.fieldAddr (off' := voff ev_ + ((k : Int)).toNat * 7 + 2) Try.runUnderlying93 rfl Try.sizeOf3 rfl rfl rfl) rfl ?_
        refine O.q (Qt.ld rfl (Cel.eltM (Src.ro 0 rfl) he4) (o := (voff ev_ + k * 7)) (off := 2) (by omega) (Cut.one Try.isAgg3 rfl)) rfl ?_
        refine O.p (Pu.move rfl) rfl ?_
        refine O.p (Pu.eql rfl rfl) rfl ?_
        refine O.p (Pu.move rfl) rfl ?_
        refine O.gq (t := 35) rfl rfl h5 rfl (Pu.qt (Pu.move rfl)) rfl ?_
        refine O.gq (t := 35) rfl rfl h5 rfl (Pu.qt (Pu.move rfl)) rfl ?_
        refine O.gq (t := 35) rfl rfl h5 rfl (Qt.idxM Try.runUnderlying22 Try.sizeOf93 rfl (Src.ro 0 rfl) rfl (by first | omega | (simp only [List.length_append, List.length_cons, List.length_nil, List.length_set]; omega)) (by first | omega | (simp only [List.length_append, List.length_cons, List.length_nil, List.length_set]; omega))) rfl ?_
        refine O.gq (t := 35) rfl rfl h5 rfl (Pu.qt (Pu.fieldAddr (off' := voff ev_ + ((k : Int)).toNat * 7 + 0) Try.runUnderlying93 rfl Try.sizeOf3 rfl rfl rfl)) rfl ?_
        refine O.gq (t := 35) rfl rfl h5 rfl (Qt.ld rfl (Cel.eltM (Src.ro 0 rfl) he4) (o := (voff ev_ + k * 7)) (off := 0) (by omega) (Cut.one Try.isAgg3 rfl)) rfl ?_
        refine O.gq (t := 35) rfl rfl h5 rfl (Pu.qt (Pu.eql rfl rfl)) rfl ?_
        refine O.p (Pu.pickT rfl h5 rfl) rfl ?_
        refine O.nil ?_
        refine J.cond rfl (fun h13 => ?_) (fun h13 => ?_)
        ·
          have p14 := of_decide_eq_true h13
          refine J.region ?_
          refine O.p (Pu.move rfl) rfl ?_
          refine O.p (Pu.add' rfl rfl (by first | omega | (simp only [List.length_append, List.length_cons, List.length_nil, List.length_set]; omega))) rfl ?_
          refine O.p (Pu.assign rfl) rfl ?_
          refine O.nil ?_
          refine J.blk ?_
          refine J.region ?_
          refine O.p (Pu.move rfl) rfl ?_
          refine O.p (Pu.add' rfl rfl (by first | omega | (simp only [List.length_append, List.length_cons, List.length_nil, List.length_set]; omega))) rfl ?_
          refine O.p (Pu.assign rfl) rfl ?_
          refine O.nil ?_
          exact J.lp ⟨k + 1, n + 1⟩ (show (k + 1) ≤ l.length ∧ (n + 1) = upI (Dw.winF s) 0 l (k + 1) ∧ (0 : Int) ≤ (n + 1) ∧ (n + 1) ≤ ((k + 1) : Int) from ⟨by omega, (by rw [upI_succ (by assumption), ← hst]; clear hst; simp_all [Dw.winF]), by omega, by omega⟩) (show l.length - (k + 1) < l.length - k from (by first | omega | (simp only [List.length_append, List.length_cons, List.length_nil, List.length_set]; omega))) ⟨rfl, rfl, rfl, rfl, (congrArg (fun z => some (Value.int .i64 z)) (by first | rfl | omega : ((k : Int) + 1 : Int) = ((k + 1) : Int))), trivial⟩ [] (by decide) rfl
        ·
          have p15 := of_decide_eq_false h13
          refine J.skip ?_
          refine J.blk ?_
          refine J.region ?_
          refine O.p (Pu.move rfl) rfl ?_
          refine O.p (Pu.add' rfl rfl (by first | omega | (simp only [List.length_append, List.length_cons, List.length_nil, List.length_set]; omega))) rfl ?_
          refine O.p (Pu.assign rfl) rfl ?_
          refine O.nil ?_
          exact J.lp ⟨k + 1, n⟩ (show (k + 1) ≤ l.length ∧ n = upI (Dw.winF s) 0 l (k + 1) ∧ (0 : Int) ≤ n ∧ n ≤ ((k + 1) : Int) from ⟨by omega, (by rw [upI_succ (by assumption), ← hst]; clear hst; simp_all [Dw.winF]), by omega, by omega⟩) (show l.length - (k + 1) < l.length - k from (by first | omega | (simp only [List.length_append, List.length_cons, List.length_nil, List.length_set]; omega))) ⟨rfl, rfl, rfl, rfl, (congrArg (fun z => some (Value.int .i64 z)) (by first | rfl | omega : ((k : Int) + 1 : Int) = ((k + 1) : Int))), trivial⟩ [] (by decide) rfl
    ·
      have p16 := of_decide_eq_false h5
      refine O.gskip (t := 20) rfl rfl (no_bool (by rw [h5]; decide)) rfl rfl ?_
      refine O.gskip (t := 20) rfl rfl (no_bool (by rw [h5]; decide)) rfl rfl ?_
      refine O.gskip (t := 20) rfl rfl (no_bool (by rw [h5]; decide)) rfl rfl ?_
      refine O.gskip (t := 20) rfl rfl (no_bool (by rw [h5]; decide)) rfl rfl ?_
      refine O.gskip (t := 20) rfl rfl (no_bool (by rw [h5]; decide)) rfl rfl ?_
      refine O.gskip (t := 20) rfl rfl (no_bool (by rw [h5]; decide)) rfl rfl ?_
      refine O.p (Pu.pickF rfl h5 rfl) rfl ?_
      refine O.nil ?_
      refine J.condF rfl rfl ?_
      refine J.skip ?_
      refine J.seq ?_
      refine J.region ?_
      refine O.p (Pu.move rfl) rfl ?_
      refine O.p (Pu.move rfl) rfl ?_
      refine O.q (Qt.idxM Try.runUnderlying22 Try.sizeOf93 rfl (Src.ro 0 rfl) rfl (by first | omega | (simp only [List.length_append, List.length_cons, List.length_nil, List.length_set]; omega)) (by first | omega | (simp only [List.length_append, List.length_cons, List.length_nil, List.length_set]; omega))) rfl ?_
      refine O.p (Pu.fieldAddr (off' := voff ev_ + ((k : Int)).toNat * 7 + 2) Try.runUnderlying93 rfl Try.sizeOf3 rfl rfl rfl) rfl ?_
      refine O.q (Qt.ld rfl (Cel.eltM (Src.ro 0 rfl) he4) (o := (voff ev_ + k * 7)) (off := 2) (by omega) (Cut.one Try.isAgg3 rfl)) rfl ?_
      refine O.p (Pu.move rfl) rfl ?_
      refine O.p (Pu.eql rfl rfl) rfl ?_
      refine O.p (Pu.move rfl) rfl ?_
      refine O.gskip (t := 35) rfl rfl (no_bool (by rw [h5]; decide)) rfl rfl ?_
      refine O.gskip (t := 35) rfl rfl (no_bool (by rw [h5]; decide)) rfl rfl ?_
      refine O.gskip (t := 35) rfl rfl (no_bool (by rw [h5]; decide)) rfl rfl ?_
      refine O.gskip (t := 35) rfl rfl (no_bool (by rw [h5]; decide)) rfl rfl ?_
      refine O.gskip (t := 35) rfl rfl (no_bool (by rw [h5]; decide)) rfl rfl ?_
      refine O.gskip (t := 35) rfl rfl (no_bool (by rw [h5]; decide)) rfl rfl ?_
      refine O.p (Pu.pickF rfl h5 rfl) rfl ?_
      refine O.nil ?_
      refine J.condF rfl rfl ?_
      refine J.skip ?_
      refine J.blk ?_
      refine J.region ?_
      refine O.p (Pu.move rfl) rfl ?_
      refine O.p (Pu.add' rfl rfl (by first | omega | (simp only [List.length_append, List.length_cons, List.length_nil, List.length_set]; omega))) rfl ?_
      refine O.p (Pu.assign rfl) rfl ?_
      refine O.nil ?_
      exact J.lp ⟨k + 1, n⟩ (show (k + 1) ≤ l.length ∧ n = upI (Dw.winF s) 0 l (k + 1) ∧ (0 : Int) ≤ n ∧ n ≤ ((k + 1) : Int) from ⟨by omega, (by rw [upI_succ (by assumption), ← hst]; clear hst; simp_all [Dw.winF]), by omega, by omega⟩) (show l.length - (k + 1) < l.length - k from (by first | omega | (simp only [List.length_append, List.length_cons, List.length_nil, List.length_set]; omega))) ⟨rfl, rfl, rfl, rfl, (congrArg (fun z => some (Value.int .i64 z)) (by first | rfl | omega : ((k : Int) + 1 : Int) = ((k + 1) : Int))), trivial⟩ [] (by decide) rfl
  ·
    have p17 := of_decide_eq_false h2
    refine J.exit _ rfl ?_
    refine J.seq ?_
    refine J.region ?_
    refine O.p (Pu.move rfl) rfl ?_
    refine O.p (Pu.assign rfl) rfl ?_
    refine O.nil ?_
    exact J.ret (Fin.ret (rs := [.tmp 4]) rfl [_] ⟨rfl, trivial⟩ [] (by decide) [] rfl ⟨(by have hk2 : k = l.length := (by omega); rw [Dw.windows_eq, Dw.windowsR, ← hk2, ← hst]; rfl), rfl⟩)

set_option maxRecDepth 100000 in
theorem r44_Calm (s : Int) (ev_ : Value) (l : List Ev) (hl : l.length ≤ 100000) : Tri Try.prog 26 #[.int .i64 s, ev_] [rd ev_ 7 (l.map Ev.cells)] [] (fun v L' => v = .int .i64 (Dw.calm s l) ∧ L' = []) := by
  refine Tri.enter (args := [.int .i64 s, ev_]) (body := _) 39 Try.func26 rfl Try.ntmps26 rfl ?_
  intro w0
  refine J.seq ?_
  refine J.region ?_
  refine O.p (Pu.assign rfl) rfl ?_
  refine O.nil ?_
  refine J.seq ?_
  refine J.region ?_
  refine O.p (Pu.assign rfl) rfl ?_
  refine O.nil ?_
  refine J.seq ?_
  refine J.seq ?_
  refine J.region ?_
  refine O.p (Pu.assign rfl) rfl ?_
  refine O.nil ?_
  refine J.block ?_
  refine J.loop (X := Nat × Int) (fun ξ => ξ.1 ≤ l.length ∧ ξ.2 = upI (Dw.calmG s) 0 l ξ.1 ∧ (0 : Int) ≤ ξ.2 ∧ ξ.2 ≤ (ξ.1 : Int)) (fun ξ => [(0, .int .i64 s), (1, ev_), (4, .int .i64 0), (5, .int .i64 ξ.2), (6, .int .i64 (ξ.1 : Int))]) (fun ξ => []) (fun ξ => l.length - ξ.1) ⟨0, 0⟩ (show 0 ≤ l.length ∧ 0 = upI (Dw.calmG s) 0 l 0 ∧ (0 : Int) ≤ 0 ∧ 0 ≤ (0 : Int) from ⟨by omega, rfl, by omega, by simp⟩) ⟨rfl, rfl, rfl, rfl, (congrArg (fun z => some (Value.int .i64 z)) (by first | rfl | omega : (0 : Int) = (0 : Int))), trivial⟩ [] (by decide) rfl ?_
  rintro ⟨k, n⟩ hq1
  obtain ⟨hk, hst, hn0, hn1⟩ : k ≤ l.length ∧ n = upI (Dw.calmG s) 0 l k ∧ (0 : Int) ≤ n ∧ n ≤ (k : Int) := hq1
  show J _ _ [(0, .int .i64 s), (1, ev_), (4, .int .i64 0), (5, .int .i64 n), (6, .int .i64 (k : Int))] []
  refine J.seq ?_
  refine J.seq ?_
  refine J.region ?_
  refine O.p (Pu.move rfl) rfl ?_
  refine O.p (Pu.move rfl) rfl ?_
  refine O.q (Qt.lenM Try.runUnderlying22 rfl (Src.ro 0 rfl)) rfl ?_
  refine O.p (Pu.lss rfl rfl) rfl ?_
  refine O.nil ?_
  refine J.cond rfl (fun h2 => ?_) (fun h2 => ?_)
  ·
    have p3 := of_decide_eq_true h2
    refine J.skip ?_
    refine J.seq ?_
    refine J.block ?_
    refine J.seq ?_
    refine J.seq ?_
    refine J.region ?_
    refine O.p (Pu.move rfl) rfl ?_
    refine O.p (Pu.move rfl) rfl ?_
    obtain ⟨e4, he4⟩ : ∃ e, l[k]? = some e := ⟨_, List.getElem?_eq_getElem (by first | omega | (simp only [List.length_append, List.length_cons, List.length_nil, List.length_set]; omega))⟩
    refine O.q (Qt.idxM Try.runUnderlying22 Try.sizeOf93 rfl (Src.ro 0 rfl) rfl (by first | omega | (simp only [List.length_append, List.length_cons, List.length_nil, List.length_set]; omega)) (by first | omega | (simp only [List.length_append, List.length_cons, List.length_nil, List.length_set]; omega))) rfl ?_
    refine O.p (Pu.fieldAddr (off' := voff ev_ + ((k : Int)).toNat * 7 + 2) Try.runUnderlying93 rfl Try.sizeOf3 rfl rfl rfl) rfl ?_
    refine O.q (Qt.ld rfl (Cel.eltM (Src.ro 0 rfl) he4) (o := (voff ev_ + k * 7)) (off := 2) (by omega) (Cut.one Try.isAgg3 rfl)) rfl ?_
    refine O.p (Pu.move rfl) rfl ?_
    refine O.p (Pu.neq rfl rfl) rfl ?_
    refine O.nil ?_
    refine J.cond rfl (fun h5 => ?_) (fun h5 => ?_)
    ·
      have p6 := of_decide_eq_true h5
      refine J.exit _ rfl ?_
      refine J.region ?_
      refine O.p (Pu.move rfl) rfl ?_
      refine O.p (Pu.add' rfl rfl (by first | omega | (simp only [List.length_append, List.length_cons, List.length_nil, List.length_set]; omega))) rfl ?_
      refine O.p (Pu.assign rfl) rfl ?_
      refine O.nil ?_
      exact J.lp ⟨k + 1, n⟩ (show (k + 1) ≤ l.length ∧ n = upI (Dw.calmG s) 0 l (k + 1) ∧ (0 : Int) ≤ n ∧ n ≤ ((k + 1) : Int) from ⟨by omega, (by rw [upI_succ (by assumption), ← hst]; clear hst; simp_all [Dw.calmG, Dw.calmF]), by omega, by omega⟩) (show l.length - (k + 1) < l.length - k from (by first | omega | (simp only [List.length_append, List.length_cons, List.length_nil, List.length_set]; omega))) ⟨rfl, rfl, rfl, rfl, (congrArg (fun z => some (Value.int .i64 z)) (by first | rfl | omega : ((k : Int) + 1 : Int) = ((k + 1) : Int))), trivial⟩ [] (by decide) rfl
    ·
      have p7 := of_decide_eq_false h5
      refine J.skip ?_
      refine J.seq ?_
      refine J.region ?_
      refine O.p (Pu.move rfl) rfl ?_
      refine O.p (Pu.move rfl) rfl ?_
      refine O.q (Qt.idxM Try.runUnderlying22 Try.sizeOf93 rfl (Src.ro 0 rfl) rfl (by first | omega | (simp only [List.length_append, List.length_cons, List.length_nil, List.length_set]; omega)) (by first | omega | (simp only [List.length_append, List.length_cons, List.length_nil, List.length_set]; omega))) rfl ?_
      refine O.p (Pu.fieldAddr (off' := voff ev_ + ((k : Int)).toNat * 7 + 0) Try.runUnderlying93 rfl Try.sizeOf3 rfl rfl rfl) rfl ?_
      refine O.q (Qt.ld rfl (Cel.eltM (Src.ro 0 rfl) he4) (o := (voff ev_ + k * 7)) (off := 0) (by omega) (Cut.one Try.isAgg3 rfl)) rfl ?_
      refine O.nil ?_
      refine J.block ?_
      refine J.seq ?_
      refine J.seq ?_
      refine J.region ?_
      refine O.p (Pu.eql rfl rfl) rfl ?_
      refine O.p (Pu.assign rfl) rfl ?_
      refine O.nil ?_
      refine J.cond rfl (fun h8 => ?_) (fun h8 => ?_)
      ·
        have p9 := of_decide_eq_true h8
        refine J.skip ?_
        refine J.condT rfl h8 ?_
        refine J.region ?_
        refine O.p (Pu.assign rfl) rfl ?_
        refine O.nil ?_
        refine J.blk ?_
        refine J.blk ?_
        refine J.region ?_
        refine O.p (Pu.move rfl) rfl ?_
        refine O.p (Pu.add' rfl rfl (by first | omega | (simp only [List.length_append, List.length_cons, List.length_nil, List.length_set]; omega))) rfl ?_
        refine O.p (Pu.assign rfl) rfl ?_
        refine O.nil ?_
        exact J.lp ⟨k + 1, 0⟩ (show (k + 1) ≤ l.length ∧ 0 = upI (Dw.calmG s) 0 l (k + 1) ∧ (0 : Int) ≤ 0 ∧ 0 ≤ ((k + 1) : Int) from ⟨by omega, (by rw [upI_succ (by assumption), ← hst]; clear hst; simp_all [Dw.calmG, Dw.calmF]), by omega, by omega⟩) (show l.length - (k + 1) < l.length - k from (by first | omega | (simp only [List.length_append, List.length_cons, List.length_nil, List.length_set]; omega))) ⟨rfl, rfl, rfl, rfl, (congrArg (fun z => some (Value.int .i64 z)) (by first | rfl | omega : ((k : Int) + 1 : Int) = ((k + 1) : Int))), trivial⟩ [] (by decide) rfl
      ·
        have p10 := of_decide_eq_false h8
        refine J.region ?_
        refine O.p (Pu.eql rfl rfl) rfl ?_
        refine O.p (Pu.assign rfl) rfl ?_
        refine O.nil ?_
        refine J.cond rfl (fun h11 => ?_) (fun h11 => ?_)
        ·
          have p12 := of_decide_eq_true h11
          refine J.region ?_
          refine O.p (Pu.assign rfl) rfl ?_
          refine O.nil ?_
          refine J.blk ?_
          refine J.blk ?_
          refine J.region ?_
          refine O.p (Pu.move rfl) rfl ?_
          refine O.p (Pu.add' rfl rfl (by first | omega | (simp only [List.length_append, List.length_cons, List.length_nil, List.length_set]; omega))) rfl ?_
          refine O.p (Pu.assign rfl) rfl ?_
          refine O.nil ?_
          exact J.lp ⟨k + 1, 0⟩ (show (k + 1) ≤ l.length ∧ 0 = upI (Dw.calmG s) 0 l (k + 1) ∧ (0 : Int) ≤ 0 ∧ 0 ≤ ((k + 1) : Int) from ⟨by omega, (by rw [upI_succ (by assumption), ← hst]; clear hst; simp_all [Dw.calmG, Dw.calmF]), by omega, by omega⟩) (show l.length - (k + 1) < l.length - k from (by first | omega | (simp only [List.length_append, List.length_cons, List.length_nil, List.length_set]; omega))) ⟨rfl, rfl, rfl, rfl, (congrArg (fun z => some (Value.int .i64 z)) (by first | rfl | omega : ((k : Int) + 1 : Int) = ((k + 1) : Int))), trivial⟩ [] (by decide) rfl
        ·
          have p13 := of_decide_eq_false h11
          refine J.seq ?_
          refine J.region ?_
          refine O.p (Pu.eql rfl rfl) rfl ?_
          refine O.p (Pu.assign rfl) rfl ?_
          refine O.nil ?_
          refine J.cond rfl (fun h14 => ?_) (fun h14 => ?_)
          ·
            have p15 := of_decide_eq_true h14
            refine J.seq ?_
            refine J.region ?_
            refine O.p (Pu.move rfl) rfl ?_
            refine O.p (Pu.add' rfl rfl (by first | omega | (simp only [List.length_append, List.length_cons, List.length_nil, List.length_set]; omega))) rfl ?_
            refine O.p (Pu.assign rfl) rfl ?_
            refine O.nil ?_
            refine J.seq ?_
            refine J.region ?_
            refine O.p (Pu.move rfl) rfl ?_
            refine O.p (Pu.move rfl) rfl ?_
            refine O.q (Qt.idxM Try.runUnderlying22 Try.sizeOf93 rfl (Src.ro 0 rfl) rfl (by first | omega | (simp only [List.length_append, List.length_cons, List.length_nil, List.length_set]; omega)) (by first | omega | (simp only [List.length_append, List.length_cons, List.length_nil, List.length_set]; omega))) rfl ?_
            refine O.p (Pu.fieldAddr (off' := voff ev_ + ((k : Int)).toNat * 7 + 4) Try.runUnderlying93 rfl Try.sizeOf3 rfl rfl rfl) rfl ?_
            refine O.q (Qt.ld rfl (Cel.eltM (Src.ro 0 rfl) he4) (o := (voff ev_ + k * 7)) (off := 4) (by omega) (Cut.one Try.isAgg3 rfl)) rfl ?_
            refine O.p (Pu.neq rfl rfl) rfl ?_
            refine O.nil ?_
            refine J.cond rfl (fun h16 => ?_) (fun h16 => ?_)
            ·
              have p17 := of_decide_eq_true h16
              refine J.region ?_
              refine O.p (Pu.assign rfl) rfl ?_
              refine O.nil ?_
              refine J.blk ?_
              refine J.blk ?_
              refine J.region ?_
              refine O.p (Pu.move rfl) rfl ?_
              refine O.p (Pu.add' rfl rfl (by first | omega | (simp only [List.length_append, List.length_cons, List.length_nil, List.length_set]; omega))) rfl ?_
              refine O.p (Pu.assign rfl) rfl ?_
              refine O.nil ?_
              exact J.lp ⟨k + 1, 0⟩ (show (k + 1) ≤ l.length ∧ 0 = upI (Dw.calmG s) 0 l (k + 1) ∧ (0 : Int) ≤ 0 ∧ 0 ≤ ((k + 1) : Int) from ⟨by omega, (by rw [upI_succ (by assumption), ← hst]; clear hst; simp_all [Dw.calmG, Dw.calmF]), by omega, by omega⟩) (show l.length - (k + 1) < l.length - k from (by first | omega | (simp only [List.length_append, List.length_cons, List.length_nil, List.length_set]; omega))) ⟨rfl, rfl, rfl, rfl, (congrArg (fun z => some (Value.int .i64 z)) (by first | rfl | omega : ((k : Int) + 1 : Int) = ((k + 1) : Int))), trivial⟩ [] (by decide) rfl
            ·
              have p18 := of_decide_eq_false h16
              refine J.skip ?_
              refine J.blk ?_
              refine J.blk ?_
              refine J.region ?_
              refine O.p (Pu.move rfl) rfl ?_
              refine O.p (Pu.add' rfl rfl (by first | omega | (simp only [List.length_append, List.length_cons, List.length_nil, List.length_set]; omega))) rfl ?_
              refine O.p (Pu.assign rfl) rfl ?_
              refine O.nil ?_
              exact J.lp ⟨k + 1, n + 1⟩ (show (k + 1) ≤ l.length ∧ (n + 1) = upI (Dw.calmG s) 0 l (k + 1) ∧ (0 : Int) ≤ (n + 1) ∧ (n + 1) ≤ ((k + 1) : Int) from ⟨by omega, (by rw [upI_succ (by assumption), ← hst]; clear hst; simp_all [Dw.calmG, Dw.calmF]), by omega, by omega⟩) (show l.length - (k + 1) < l.length - k from (by first | omega | (simp only [List.length_append, List.length_cons, List.length_nil, List.length_set]; omega))) ⟨rfl, rfl, rfl, rfl, (congrArg (fun z => some (Value.int .i64 z)) (by first | rfl | omega : ((k : Int) + 1 : Int) = ((k + 1) : Int))), trivial⟩ [] (by decide) rfl
          ·
            have p19 := of_decide_eq_false h14
            refine J.skip ?_
            refine J.blk ?_
            refine J.blk ?_
            refine J.region ?_
            refine O.p (Pu.move rfl) rfl ?_
            refine O.p (Pu.add' rfl rfl (by first | omega | (simp only [List.length_append, List.length_cons, List.length_nil, List.length_set]; omega))) rfl ?_
            refine O.p (Pu.assign rfl) rfl ?_
            refine O.nil ?_
            exact J.lp ⟨k + 1, n⟩ (show (k + 1) ≤ l.length ∧ n = upI (Dw.calmG s) 0 l (k + 1) ∧ (0 : Int) ≤ n ∧ n ≤ ((k + 1) : Int) from ⟨by omega, (by rw [upI_succ (by assumption), ← hst]; clear hst; simp_all [Dw.calmG, Dw.calmF]), by omega, by omega⟩) (show l.length - (k + 1) < l.length - k from (by first | omega | (simp only [List.length_append, List.length_cons, List.length_nil, List.length_set]; omega))) ⟨rfl, rfl, rfl, rfl, (congrArg (fun z => some (Value.int .i64 z)) (by first | rfl | omega : ((k : Int) + 1 : Int) = ((k + 1) : Int))), trivial⟩ [] (by decide) rfl
  ·
    have p20 := of_decide_eq_false h2
    refine J.exit _ rfl ?_
    refine J.seq ?_
    refine J.region ?_
    refine O.p (Pu.move rfl) rfl ?_
    refine O.p (Pu.assign rfl) rfl ?_
    refine O.nil ?_
    exact J.ret (Fin.ret (rs := [.tmp 4]) rfl [_] ⟨rfl, trivial⟩ [] (by decide) [] rfl ⟨(by have hk2 : k = l.length := (by omega); rw [Dw.calm_eq, ← hk2, ← hst]; rfl), rfl⟩)

set_option maxRecDepth 100000 in
theorem r44_same (av bv : Value) (l : List Mv) (hl : l.length ≤ 100000) : Tri Try.prog 20 #[av, bv] [rd av 3 (l.map Mv.cells), rd bv 3 (l.map Mv.cells)] [] (fun v L' => v = .bool true ∧ L' = []) := by
  refine Tri.enter (args := [av, bv]) (body := _) 32 Try.func20 rfl Try.ntmps20 rfl ?_
  intro w0
  refine J.seq ?_
  refine J.region ?_
  refine O.p (Pu.assign rfl) rfl ?_
  refine O.nil ?_
  refine J.seq ?_
  refine J.seq ?_
  refine J.region ?_
  refine O.p (Pu.move rfl) rfl ?_
  refine O.q (Qt.lenM Try.runUnderlying49 rfl (Src.ro 0 rfl)) rfl ?_
  refine O.p (Pu.move rfl) rfl ?_
  refine O.q (Qt.lenM Try.runUnderlying49 rfl (Src.ro 1 rfl)) rfl ?_
  refine O.p (Pu.neq rfl rfl) rfl ?_
  refine O.nil ?_
  refine J.condF rfl (by simp) ?_
  refine J.skip ?_
  refine J.seq ?_
  refine J.seq ?_
  refine J.region ?_
  refine O.p (Pu.assign rfl) rfl ?_
  refine O.nil ?_
  refine J.block ?_
  refine J.loop (X := Nat) (fun ξ => ξ ≤ l.length) (fun ξ => [(0, av), (1, bv), (5, .int .i64 (ξ : Int))]) (fun ξ => []) (fun ξ => l.length - ξ) 0 (show 0 ≤ l.length from (by omega)) ⟨rfl, rfl, (congrArg (fun z => some (Value.int .i64 z)) (by first | rfl | omega : (0 : Int) = (0 : Int))), trivial⟩ [] (by decide) rfl ?_
  rintro k hq1
  obtain hk : k ≤ l.length := hq1
  show J _ _ [(0, av), (1, bv), (5, .int .i64 (k : Int))] []
  refine J.seq ?_
  refine J.seq ?_
  refine J.region ?_
  refine O.p (Pu.move rfl) rfl ?_
  refine O.p (Pu.move rfl) rfl ?_
  refine O.q (Qt.lenM Try.runUnderlying49 rfl (Src.ro 0 rfl)) rfl ?_
  refine O.p (Pu.lss rfl rfl) rfl ?_
  refine O.p (Pu.move rfl) rfl ?_
  refine by_bool (decide ((k : Int) < (l.length : Int))) (fun h2 => ?_) (fun h2 => ?_)
  ·
    have p3 := of_decide_eq_true h2
    refine O.gq (t := 15) rfl rfl h2 rfl (Pu.qt (Pu.move rfl)) rfl ?_
    refine O.gq (t := 15) rfl rfl h2 rfl (Pu.qt (Pu.move rfl)) rfl ?_
    refine O.gq (t := 15) rfl rfl h2 rfl (Qt.lenM Try.runUnderlying49 rfl (Src.ro 1 rfl)) rfl ?_
    refine O.gq (t := 15) rfl rfl h2 rfl (Pu.qt (Pu.lss rfl rfl)) rfl ?_
    refine O.p (Pu.pickT rfl h2 rfl) rfl ?_
    refine O.nil ?_
    refine J.condT rfl h2 ?_
    refine J.skip ?_
    refine J.seq ?_
    refine J.block ?_
    refine J.seq ?_
    refine J.drawStill Try.mixed (by kernel_rfl) ?_
    refine S.p (Pu.move rfl) rfl ?_
    refine S.p (Pu.move rfl) rfl ?_
    obtain ⟨e4, he4⟩ : ∃ e, l[k]? = some e := ⟨_, List.getElem?_eq_getElem (by first | omega | (simp only [List.length_append, List.length_cons, List.length_nil, List.length_set]; omega))⟩
    refine S.q (Qt.idxM Try.runUnderlying49 Try.sizeOf44 rfl (Src.ro 0 rfl) rfl (by first | omega | (simp only [List.length_append, List.length_cons, List.length_nil, List.length_set]; omega)) (by first | omega | (simp only [List.length_append, List.length_cons, List.length_nil, List.length_set]; omega))) rfl ?_
    refine S.q (Qt.ld rfl (Cel.eltM (Src.ro 0 rfl) he4) (o := (voff av + k * 3)) (off := 0) (by omega) (Cut.agg [.int .i64 e4.at_, .int .i64 e4.way, .int .i64 e4.tier] Try.isAgg44 Try.sizeOf44 rfl rfl)) rfl ?_
    refine S.p (Pu.move rfl) rfl ?_
    refine S.p (Pu.move rfl) rfl ?_
    refine S.q (Qt.idxM Try.runUnderlying49 Try.sizeOf44 rfl (Src.ro 1 rfl) rfl (by first | omega | (simp only [List.length_append, List.length_cons, List.length_nil, List.length_set]; omega)) (by first | omega | (simp only [List.length_append, List.length_cons, List.length_nil, List.length_set]; omega))) rfl ?_
    refine S.q (Qt.ld rfl (Cel.eltM (Src.ro 1 rfl) he4) (o := (voff bv + k * 3)) (off := 0) (by omega) (Cut.agg [.int .i64 e4.at_, .int .i64 e4.way, .int .i64 e4.tier] Try.isAgg44 Try.sizeOf44 rfl rfl)) rfl ?_
    refine S.p (Pu.neqI [e4.at_, e4.way, e4.tier] [e4.at_, e4.way, e4.tier] Try.underlying44 Try.stoodInHeld44 Try.eqGuardType44 (fint44 Try.underlying44) rfl rfl rfl rfl) rfl ?_
    refine S.endJ ?_
    refine J.condF rfl (not_of_true (by simp)) ?_
    refine J.skip ?_
    refine J.blk ?_
    refine J.region ?_
    refine O.p (Pu.move rfl) rfl ?_
    refine O.p (Pu.add' rfl rfl (by first | omega | (simp only [List.length_append, List.length_cons, List.length_nil, List.length_set]; omega))) rfl ?_
    refine O.p (Pu.assign rfl) rfl ?_
    refine O.nil ?_
    exact J.lp (k + 1) (show (k + 1) ≤ l.length from (by omega)) (show l.length - (k + 1) < l.length - k from (by first | omega | (simp only [List.length_append, List.length_cons, List.length_nil, List.length_set]; omega))) ⟨rfl, rfl, (congrArg (fun z => some (Value.int .i64 z)) (by first | rfl | omega : ((k : Int) + 1 : Int) = ((k + 1) : Int))), trivial⟩ [] (by decide) rfl
  ·
    have p5 := of_decide_eq_false h2
    refine O.gskip (t := 15) rfl rfl (no_bool (by rw [h2]; decide)) rfl rfl ?_
    refine O.gskip (t := 15) rfl rfl (no_bool (by rw [h2]; decide)) rfl rfl ?_
    refine O.gskip (t := 15) rfl rfl (no_bool (by rw [h2]; decide)) rfl rfl ?_
    refine O.gskip (t := 15) rfl rfl (no_bool (by rw [h2]; decide)) rfl rfl ?_
    refine O.p (Pu.pickF rfl h2 rfl) rfl ?_
    refine O.nil ?_
    refine J.condF rfl rfl ?_
    refine J.exit _ rfl ?_
    refine J.seq ?_
    refine J.region ?_
    refine O.p (Pu.assign rfl) rfl ?_
    refine O.nil ?_
    exact J.ret (Fin.ret (rs := [.tmp 4]) rfl [_] ⟨rfl, trivial⟩ [] (by decide) [] rfl ⟨rfl, rfl⟩)

end Go.Proofs.Ytghhjhjpccipaaa
