/-
  Walks, printed by a program of mine (lk.py): each function meets its contract.
-/
import Derived.KernelRfl
import Derived.Test.YtghhjhjpccipaaaDW3
import Derived.Test.YtghhjhjpccipaaaW3
namespace Go.Proofs.Ytghhjhjpccipaaa
open Go Go.LK
set_option linter.unusedSimpArgs false

set_option maxRecDepth 100000 in
theorem dw_Moves (s lv ti : Int) (ev_ : Value) (l : List Ev) (hl : l.length ≤ 100000) : Tri Try.prog 21 #[.int .i64 s, .int .i64 lv, .int .i64 ti, ev_] [rd ev_ 7 (l.map Ev.cells)] [] (fun v L' => L' = [row v 44 3 ((Dw.moves s lv ti l).map Mv.cells)]) := by
  refine Tri.enter (args := [.int .i64 s, .int .i64 lv, .int .i64 ti, ev_]) (body := _) 21 Try.func21 rfl Try.ntmps21 rfl ?_
  intro w0
  refine J.seq ?_
  refine J.region ?_
  refine O.p (Pu.assign rfl) rfl ?_
  refine O.nil ?_
  refine J.seq ?_
  refine J.region ?_
  refine O.l (Lo.alloc [Value.slice none 0 0] (by exact Try.zeroValue49) rfl) rfl ?_
  rintro _ _ ⟨g1, rfl, rfl⟩
  refine O.nil ?_
  refine J.seq ?_
  refine J.region ?_
  refine O.p (Pu.makeFunc [.pointer (some ⟨g1, 0, none⟩)] rfl) rfl ?_
  refine O.p (Pu.build [(1, .func (.func 66) #[] #[.pointer (some ⟨g1, 0, none⟩)]), (2, .func (.func 67) #[] #[])] [.int .i64 0, .int .i64 0, .int .i64 0, .func (.func 66) #[] #[.pointer (some ⟨g1, 0, none⟩)], .func (.func 67) #[] #[]] #[(0, 3), (3, 1), (4, 1)] Try.runUnderlying110 Try.zeroValue110 (places110 Try.underlying110) rfl (by kernel_rfl)) rfl ?_
  refine O.l (Lo.box [.int .i64 0, .int .i64 0, .int .i64 0, .func (.func 66) #[] #[.pointer (some ⟨g1, 0, none⟩)], .func (.func 67) #[] #[]] rfl rfl) rfl ?_
  rintro _ _ ⟨g2, rfl, rfl⟩
  refine O.p (Pu.assign rfl) rfl ?_
  refine O.nil ?_
  refine J.seq ?_
  refine J.region ?_
  refine O.p (Pu.move rfl) rfl ?_
  refine O.p (Pu.move rfl) rfl ?_
  refine O.p (Pu.move rfl) rfl ?_
  refine O.p (Pu.move rfl) rfl ?_
  refine O.p (Pu.move rfl) rfl ?_
  refine O.nilRow 44 3 ?_
  refine O.l (Lo.call [.pointer (some ⟨g2, 0, none⟩), .int .i64 s, .int .i64 lv, .int .i64 ti, ev_] (by exact Try.call62) rfl (dw_over_moves g2 g1 (⟨0, 0, 0⟩ : Wd) s lv ti ev_ l (by omega)) [1, 2, 0] [] (by decide) rfl _ rfl (RoOk.ro 0 rfl [1, 2, 0] rfl RoOk.nil)) rfl ?_
  rintro _ _ ⟨_, ⟨rfl, V3, rfl⟩, rfl⟩
  refine O.nil ?_
  refine J.seq ?_
  refine J.region ?_
  refine O.q (Qt.ld rfl (Cel.var 0 rfl) (o := 0) (off := 0) rfl (Cut.one Try.isAgg49 rfl)) rfl ?_
  refine O.p (Pu.assign rfl) rfl ?_
  refine O.nil ?_
  exact J.ret (Fin.ret (rs := [.tmp 8]) rfl [_] ⟨rfl, trivial⟩ [1] (by decide) [row V3 44 3 ((Dw.moves s lv ti l).map Mv.cells)] rfl rfl)

set_option maxRecDepth 100000 in
theorem dw_Wrong (s lv ti : Int) (x : Kn) (ev_ : Value) (l : List Ev) (hl : l.length ≤ 100000) : Tri Try.prog 18 #[.int .i64 s, .int .i64 lv, .int .i64 ti, .agg #[.int .i64 x.low, .int .i64 x.high, .int .i64 x.cut, .int .i64 x.lift, .int .i64 x.floor, .int .i64 x.turn, .int .i64 x.dwell], ev_] [rd ev_ 7 (l.map Ev.cells)] [] (fun v L' => v = .tuple #[.agg #[.int .i64 (((Dw.ws s lv ti x l).fst).at_), .int .i64 (((Dw.ws s lv ti x l).fst).way), .int .i64 (((Dw.ws s lv ti x l).fst).tier)], .bool (Dw.ws s lv ti x l).found] ∧ L' = []) := by
  refine Tri.enter (args := [.int .i64 s, .int .i64 lv, .int .i64 ti, .agg #[.int .i64 x.low, .int .i64 x.high, .int .i64 x.cut, .int .i64 x.lift, .int .i64 x.floor, .int .i64 x.turn, .int .i64 x.dwell], ev_]) (body := _) 28 Try.func18 rfl Try.ntmps18 rfl ?_
  intro w0
  refine J.seq ?_
  refine J.region ?_
  refine O.l (Lo.box [.int .i64 x.low, .int .i64 x.high, .int .i64 x.cut, .int .i64 x.lift, .int .i64 x.floor, .int .i64 x.turn, .int .i64 x.dwell] rfl rfl) rfl ?_
  rintro _ _ ⟨g1, rfl, rfl⟩
  refine O.l (Lo.alloc [.int .i64 0, .int .i64 0, .int .i64 0] (by exact Try.zeroValue44) rfl) rfl ?_
  rintro _ _ ⟨g2, rfl, rfl⟩
  refine O.p (Pu.assign rfl) rfl ?_
  refine O.nil ?_
  refine J.seq ?_
  refine J.region ?_
  refine O.l (Lo.alloc [.int .i64 0, .int .i64 0, .int .i64 0] (by exact Try.zeroValue44) rfl) rfl ?_
  rintro _ _ ⟨g3, rfl, rfl⟩
  refine O.nil ?_
  refine J.seq ?_
  refine J.region ?_
  refine O.l (Lo.alloc [.int .i64 0, .int .i64 0, .int .i64 0, .int .i64 0] (by exact Try.zeroValue101) rfl) rfl ?_
  rintro _ _ ⟨g4, rfl, rfl⟩
  refine O.nil ?_
  refine J.seq ?_
  refine J.region ?_
  refine O.l (Lo.alloc [.bool false] (by exact Try.zeroValue4) rfl) rfl ?_
  rintro _ _ ⟨g5, rfl, rfl⟩
  refine O.l0 (Lo.store 0 (vs := [.bool false]) [.bool false] rfl rfl rfl (by exact Try.sizeOf4) rfl rfl rfl rfl rfl) ?_
  rintro _ _ rfl
  refine O.nil ?_
  refine J.seq ?_
  refine J.region ?_
  refine O.p (Pu.makeFunc [.pointer (some ⟨g5, 0, none⟩), .pointer (some ⟨g4, 0, none⟩), .pointer (some ⟨g1, 0, none⟩), .pointer (some ⟨g3, 0, none⟩)] rfl) rfl ?_
  refine O.p (Pu.makeFunc [.pointer (some ⟨g4, 0, none⟩)] rfl) rfl ?_
  refine O.p (Pu.build [(1, .func (.func 57) #[] #[.pointer (some ⟨g5, 0, none⟩), .pointer (some ⟨g4, 0, none⟩), .pointer (some ⟨g1, 0, none⟩), .pointer (some ⟨g3, 0, none⟩)]), (2, .func (.func 61) #[] #[.pointer (some ⟨g4, 0, none⟩)])] [.int .i64 0, .int .i64 0, .int .i64 0, .func (.func 57) #[] #[.pointer (some ⟨g5, 0, none⟩), .pointer (some ⟨g4, 0, none⟩), .pointer (some ⟨g1, 0, none⟩), .pointer (some ⟨g3, 0, none⟩)], .func (.func 61) #[] #[.pointer (some ⟨g4, 0, none⟩)]] #[(0, 3), (3, 1), (4, 1)] Try.runUnderlying110 Try.zeroValue110 (places110 Try.underlying110) rfl (by kernel_rfl)) rfl ?_
  refine O.l (Lo.box [.int .i64 0, .int .i64 0, .int .i64 0, .func (.func 57) #[] #[.pointer (some ⟨g5, 0, none⟩), .pointer (some ⟨g4, 0, none⟩), .pointer (some ⟨g1, 0, none⟩), .pointer (some ⟨g3, 0, none⟩)], .func (.func 61) #[] #[.pointer (some ⟨g4, 0, none⟩)]] rfl rfl) rfl ?_
  rintro _ _ ⟨g6, rfl, rfl⟩
  refine O.p (Pu.assign rfl) rfl ?_
  refine O.nil ?_
  refine J.seq ?_
  refine J.region ?_
  refine O.p (Pu.move rfl) rfl ?_
  refine O.p (Pu.move rfl) rfl ?_
  refine O.p (Pu.move rfl) rfl ?_
  refine O.p (Pu.move rfl) rfl ?_
  refine O.p (Pu.move rfl) rfl ?_
  refine O.l (Lo.call [.pointer (some ⟨g6, 0, none⟩), .int .i64 s, .int .i64 lv, .int .i64 ti, ev_] (by exact Try.call62) rfl (dw_over_wrong g6 g5 g4 g1 g3 x (⟨0, 0, 0⟩ : Wd) s lv ti ev_ l (by omega)) [0, 1, 2, 5, 3] [4] (by decide) rfl _ rfl (RoOk.ro 0 rfl [0, 1, 2, 5, 3] rfl RoOk.nil)) rfl ?_
  rintro _ _ ⟨_, ⟨rfl, rfl⟩, rfl⟩
  refine O.nil ?_
  refine J.seq ?_
  refine J.drawMix [(0, false), (1, false), (2, true), (3, false)] [0, 1] [var g5 [.bool ((Dw.ws s lv ti x l).found)] 4, var g3 [.int .i64 (((Dw.ws s lv ti x l).fst).at_), .int .i64 (((Dw.ws s lv ti x l).fst).way), .int .i64 (((Dw.ws s lv ti x l).fst).tier)] 44] Try.mixed (by kernel_rfl) (by decide) rfl ?_
  refine Mx.q rfl (Qt.ld rfl (Cel.var 1 rfl) (o := 0) (off := 0) rfl (Cut.agg [.int .i64 (((Dw.ws s lv ti x l).fst).at_), .int .i64 (((Dw.ws s lv ti x l).fst).way), .int .i64 (((Dw.ws s lv ti x l).fst).tier)] Try.isAgg44 Try.sizeOf44 rfl rfl)) rfl ?_
  refine Mx.q rfl (Qt.ld rfl (Cel.var 0 rfl) (o := 0) (off := 0) rfl (Cut.one Try.isAgg4 rfl)) rfl ?_
  refine Mx.l0 rfl (Lo.store 2 (vs := [.int .i64 (((Dw.ws s lv ti x l).fst).at_), .int .i64 (((Dw.ws s lv ti x l).fst).way), .int .i64 (((Dw.ws s lv ti x l).fst).tier)]) [.int .i64 (((Dw.ws s lv ti x l).fst).at_), .int .i64 (((Dw.ws s lv ti x l).fst).way), .int .i64 (((Dw.ws s lv ti x l).fst).tier)] rfl rfl rfl (by exact Try.sizeOf44) rfl rfl rfl rfl rfl) ?_
  rintro _ _ rfl
  refine MxK.go [0, 1] [0, 1] [var g5 [.bool ((Dw.ws s lv ti x l).found)] 4, var g3 [.int .i64 (((Dw.ws s lv ti x l).fst).at_), .int .i64 (((Dw.ws s lv ti x l).fst).way), .int .i64 (((Dw.ws s lv ti x l).fst).tier)] 44] (by decide) rfl (by decide) rfl ?_
  refine Mx.p rfl (Pu.assign rfl) rfl ?_
  refine Mx.nil ?_
  exact J.ret (Fin.ret (rs := [.cell 10 44, .tmp 11]) rfl [_, _] ⟨⟨_, _, 0, 0, _, rfl, (Cel.var 2 rfl), rfl, (Cut.agg [.int .i64 (((Dw.ws s lv ti x l).fst).at_), .int .i64 (((Dw.ws s lv ti x l).fst).way), .int .i64 (((Dw.ws s lv ti x l).fst).tier)] Try.isAgg44 Try.sizeOf44 rfl rfl)⟩, rfl, trivial⟩ [] (by decide) [] rfl ⟨rfl, rfl⟩)

set_option maxRecDepth 100000 in
theorem dw_Windows (s : Int) (ev_ : Value) (l : List Ev) (hl : l.length ≤ 100000) : Tri Try.prog 23 #[.int .i64 s, ev_] [rd ev_ 7 (l.map Ev.cells)] [] (fun v L' => v = .int .i64 (Dw.windows s l) ∧ L' = []) := by
  refine Tri.enter (args := [.int .i64 s, ev_]) (body := _) 16 Try.func23 rfl Try.ntmps23 rfl ?_
  intro w0
  refine J.seq ?_
  refine J.region ?_
  refine O.p (Pu.assign rfl) rfl ?_
  refine O.nil ?_
  refine J.seq ?_
  refine J.region ?_
  refine O.l (Lo.alloc [.int .i64 0] (by exact Try.zeroValue3) rfl) rfl ?_
  rintro _ _ ⟨g1, rfl, rfl⟩
  refine O.l0 (Lo.store 0 (vs := [.int .i64 0]) [.int .i64 0] rfl rfl rfl (by exact Try.sizeOf3) rfl rfl rfl rfl rfl) ?_
  rintro _ _ rfl
  refine O.nil ?_
  refine J.seq ?_
  refine J.region ?_
  refine O.p (Pu.makeFunc [.pointer (some ⟨g1, 0, none⟩)] rfl) rfl ?_
  refine O.p (Pu.makeFunc [.pointer (some ⟨g1, 0, none⟩)] rfl) rfl ?_
  refine O.p (Pu.build [(1, .func (.func 68) #[] #[.pointer (some ⟨g1, 0, none⟩)]), (2, .func (.func 69) #[] #[.pointer (some ⟨g1, 0, none⟩)])] [.int .i64 0, .int .i64 0, .int .i64 0, .func (.func 68) #[] #[.pointer (some ⟨g1, 0, none⟩)], .func (.func 69) #[] #[.pointer (some ⟨g1, 0, none⟩)]] #[(0, 3), (3, 1), (4, 1)] Try.runUnderlying110 Try.zeroValue110 (places110 Try.underlying110) rfl (by kernel_rfl)) rfl ?_
  refine O.l (Lo.box [.int .i64 0, .int .i64 0, .int .i64 0, .func (.func 68) #[] #[.pointer (some ⟨g1, 0, none⟩)], .func (.func 69) #[] #[.pointer (some ⟨g1, 0, none⟩)]] rfl rfl) rfl ?_
  rintro _ _ ⟨g2, rfl, rfl⟩
  refine O.p (Pu.assign rfl) rfl ?_
  refine O.nil ?_
  refine J.seq ?_
  refine J.region ?_
  refine O.p (Pu.move rfl) rfl ?_
  refine O.p (Pu.move rfl) rfl ?_
  refine O.p (Pu.move rfl) rfl ?_
  refine O.l (Lo.call [.pointer (some ⟨g2, 0, none⟩), .int .i64 s, .int .i64 0, .int .i64 0, ev_] (by exact Try.call62) rfl (dw_over_windows g2 g1 (⟨0, 0, 0⟩ : Wd) s 0 0 ev_ l (by omega)) [0, 1] [] (by decide) rfl _ rfl (RoOk.ro 0 rfl [0, 1] rfl RoOk.nil)) rfl ?_
  rintro _ _ ⟨_, ⟨rfl, rfl⟩, rfl⟩
  refine O.nil ?_
  refine J.seq ?_
  refine J.region ?_
  refine O.q (Qt.ld rfl (Cel.var 0 rfl) (o := 0) (off := 0) rfl (Cut.one Try.isAgg3 rfl)) rfl ?_
  refine O.p (Pu.assign rfl) rfl ?_
  refine O.nil ?_
  exact J.ret (Fin.ret (rs := [.tmp 4]) rfl [_] ⟨rfl, trivial⟩ [] (by decide) [] rfl ⟨rfl, rfl⟩)

set_option maxRecDepth 100000 in
theorem dw_Calm (s : Int) (ev_ : Value) (l : List Ev) (hl : l.length ≤ 100000) : Tri Try.prog 25 #[.int .i64 s, ev_] [rd ev_ 7 (l.map Ev.cells)] [] (fun v L' => v = .int .i64 (Dw.calm s l) ∧ L' = []) := by
  have hol := Mono.of_len s l
  refine Tri.enter (args := [.int .i64 s, ev_]) (body := _) 43 Try.func25 rfl Try.ntmps25 rfl ?_
  intro w0
  refine J.seq ?_
  refine J.region ?_
  refine O.p (Pu.assign rfl) rfl ?_
  refine O.nil ?_
  refine J.seq ?_
  refine J.region ?_
  refine O.p (Pu.assign rfl) rfl ?_
  refine O.nil ?_
  refine J.seq ?_
  refine J.seq ?_
  refine J.region ?_
  refine O.p (Pu.move rfl) rfl ?_
  refine O.p (Pu.move rfl) rfl ?_
  refine O.l (Lo.call [.int .i64 s, ev_] (by exact Try.call50) rfl (trace_of s ev_ l (by omega)) [] [] (by decide) rfl _ rfl (RoOk.ro 0 rfl [] rfl RoOk.nil)) rfl ?_
  rintro v1 _ ⟨_, rfl, rfl⟩
  refine O.q (Qt.lenM Try.runUnderlying22 rfl (Src.row 0 rfl)) rfl ?_
  refine O.p (Pu.move rfl) rfl ?_
  refine O.nil ?_
  refine J.block ?_
  refine J.loop (X := Nat × Int) (fun ξ => ξ.1 ≤ (Mono.of s l).length ∧ ξ.2 = upI Dw.calmF 0 (Mono.of s l) ξ.1 ∧ (0 : Int) ≤ ξ.2 ∧ ξ.2 ≤ (ξ.1 : Int)) (fun ξ => [(4, .int .i64 0), (5, .int .i64 ξ.2), (10, v1), (11, .int .i64 ((Mono.of s l).length : Int)), (12, .int .i64 (ξ.1 : Int))]) (fun ξ => [row v1 93 7 ((Mono.of s l).map Ev.cells)]) (fun ξ => (Mono.of s l).length - ξ.1) ⟨0, 0⟩ (show 0 ≤ (Mono.of s l).length ∧ 0 = upI Dw.calmF 0 (Mono.of s l) 0 ∧ (0 : Int) ≤ 0 ∧ 0 ≤ (0 : Int) from ⟨by omega, rfl, by omega, by simp⟩) ⟨rfl, rfl, rfl, rfl, (congrArg (fun z => some (Value.int .i64 z)) (by first | rfl | omega : (0 : Int) = (0 : Int))), trivial⟩ [0] (by decide) rfl ?_
  rintro ⟨k, n⟩ hq2
  obtain ⟨hk, hst, hn0, hn1⟩ : k ≤ (Mono.of s l).length ∧ n = upI Dw.calmF 0 (Mono.of s l) k ∧ (0 : Int) ≤ n ∧ n ≤ (k : Int) := hq2
  show J _ _ [(4, .int .i64 0), (5, .int .i64 n), (10, v1), (11, .int .i64 ((Mono.of s l).length : Int)), (12, .int .i64 (k : Int))] [row v1 93 7 ((Mono.of s l).map Ev.cells)]
  refine J.seq ?_
  refine J.region ?_
  refine O.p (Pu.lss rfl rfl) rfl ?_
  refine O.nil ?_
  refine J.seq ?_
  refine J.cond rfl (fun h3 => ?_) (fun h3 => ?_)
  ·
    have p4 := of_decide_eq_true h3
    refine J.skip ?_
    refine J.seq ?_
    refine J.block ?_
    refine J.seq ?_
    refine J.region ?_
    obtain ⟨e5, he5⟩ : ∃ e, (Mono.of s l)[k]? = some e := ⟨_, List.getElem?_eq_getElem (by first | omega | (simp only [List.length_append, List.length_cons, List.length_nil, List.length_set]; omega))⟩
    refine O.q (Qt.idxM Try.runUnderlying22 Try.sizeOf93 rfl (Src.row 0 rfl) rfl (by first | omega | (simp only [List.length_append, List.length_cons, List.length_nil, List.length_set]; omega)) (by first | omega | (simp only [List.length_append, List.length_cons, List.length_nil, List.length_set]; omega))) rfl ?_
    refine O.q (Qt.ld rfl (Cel.eltM (Src.row 0 rfl) he5) (o := (voff v1 + k * 7)) (off := 0) (by omega) (Cut.agg [.int .i64 e5.kind, .int .i64 e5.tick, .int .i64 e5.s, .int .i64 e5.id, .int .i64 e5.code, .int .i64 e5.a, .int .i64 e5.b] Try.isAgg93 Try.sizeOf93 rfl rfl)) rfl ?_
    refine O.l (Lo.alloc [.int .i64 0, .int .i64 0, .int .i64 0, .int .i64 0, .int .i64 0, .int .i64 0, .int .i64 0] (by exact Try.zeroValue93) rfl) rfl ?_
    rintro _ _ ⟨g6, rfl, rfl⟩
    refine O.l0 (Lo.store 0 (vs := [.int .i64 e5.kind, .int .i64 e5.tick, .int .i64 e5.s, .int .i64 e5.id, .int .i64 e5.code, .int .i64 e5.a, .int .i64 e5.b]) [.int .i64 e5.kind, .int .i64 e5.tick, .int .i64 e5.s, .int .i64 e5.id, .int .i64 e5.code, .int .i64 e5.a, .int .i64 e5.b] rfl rfl rfl (by exact Try.sizeOf93) rfl rfl rfl rfl rfl) ?_
    rintro _ _ rfl
    refine O.nil ?_
    refine J.block ?_
    refine J.seq ?_
    refine J.region ?_
    refine O.p (Pu.fieldAddr (off' := 0) Try.runUnderlying93 rfl Try.sizeOf3 rfl rfl rfl) rfl ?_
    refine O.q (Qt.ld rfl (Cel.var 0 rfl) (o := 0) (off := 0) rfl (Cut.one Try.isAgg3 rfl)) rfl ?_
    refine O.p (Pu.eql rfl rfl) rfl ?_
    refine O.p (Pu.move rfl) rfl ?_
    refine by_bool (decide (e5.kind = 9)) (fun h7 => ?_) (fun h7 => ?_)
    ·
      have p8 := of_decide_eq_true h7
      refine O.gq (t := 20) rfl rfl h7 rfl (Pu.qt (Pu.fieldAddr (off' := 4) Try.runUnderlying93 rfl Try.sizeOf3 rfl rfl rfl)) rfl ?_
      refine O.gq (t := 20) rfl rfl h7 rfl (Qt.ld rfl (Cel.var 0 rfl) (o := 0) (off := 4) rfl (Cut.one Try.isAgg3 rfl)) rfl ?_
      refine O.gq (t := 20) rfl rfl h7 rfl (Pu.qt (Pu.eql rfl rfl)) rfl ?_
      refine O.p (Pu.pickT rfl h7 rfl) rfl ?_
      refine O.p (Pu.assign rfl) rfl ?_
      refine O.nil ?_
      refine J.cond rfl (fun h9 => ?_) (fun h9 => ?_)
      ·
        have p10 := of_decide_eq_true h9
        refine J.region ?_
        refine O.p (Pu.move rfl) rfl ?_
        refine O.p (Pu.add' rfl rfl (by first | omega | (simp only [List.length_append, List.length_cons, List.length_nil, List.length_set]; omega))) rfl ?_
        refine O.p (Pu.assign rfl) rfl ?_
        refine O.nil ?_
        refine J.blk ?_
        refine J.blk ?_
        refine J.region ?_
        refine O.p (Pu.add' rfl rfl (by first | omega | (simp only [List.length_append, List.length_cons, List.length_nil, List.length_set]; omega))) rfl ?_
        refine O.p (Pu.move rfl) rfl ?_
        refine O.nil ?_
        exact J.lp ⟨k + 1, n + 1⟩ (show (k + 1) ≤ (Mono.of s l).length ∧ (n + 1) = upI Dw.calmF 0 (Mono.of s l) (k + 1) ∧ (0 : Int) ≤ (n + 1) ∧ (n + 1) ≤ ((k + 1) : Int) from ⟨by omega, (by rw [upI_succ (by assumption), ← hst]; simp [Dw.calmF, *]), by omega, by omega⟩) (show (Mono.of s l).length - (k + 1) < (Mono.of s l).length - k from (by first | omega | (simp only [List.length_append, List.length_cons, List.length_nil, List.length_set]; omega))) ⟨rfl, rfl, rfl, rfl, (congrArg (fun z => some (Value.int .i64 z)) (by first | rfl | omega : ((k : Int) + 1 : Int) = ((k + 1) : Int))), trivial⟩ [1] (by decide) rfl
      ·
        have p11 := of_decide_eq_false h9
        refine J.seq ?_
        refine J.region ?_
        refine O.p (Pu.fieldAddr (off' := 0) Try.runUnderlying93 rfl Try.sizeOf3 rfl rfl rfl) rfl ?_
        refine O.q (Qt.ld rfl (Cel.var 0 rfl) (o := 0) (off := 0) rfl (Cut.one Try.isAgg3 rfl)) rfl ?_
        refine O.p (Pu.eql rfl rfl) rfl ?_
        refine O.p (Pu.move rfl) rfl ?_
        refine O.gskip (t := 31) rfl rfl (no_bool (by rw [h7]; decide)) rfl rfl ?_
        refine O.gskip (t := 31) rfl rfl (no_bool (by rw [h7]; decide)) rfl rfl ?_
        refine O.gskip (t := 31) rfl rfl (no_bool (by rw [h7]; decide)) rfl rfl ?_
        refine O.p (Pu.pickT rfl h7 rfl) rfl ?_
        refine O.p (Pu.move rfl) rfl ?_
        refine O.gskip (t := 36) rfl rfl (no_bool (by decide)) rfl rfl ?_
        refine O.gskip (t := 36) rfl rfl (no_bool (by decide)) rfl rfl ?_
        refine O.gskip (t := 36) rfl rfl (no_bool (by decide)) rfl rfl ?_
        refine O.p (Pu.pickT rfl rfl rfl) rfl ?_
        refine O.p (Pu.assign rfl) rfl ?_
        refine O.nil ?_
        refine J.condT rfl rfl ?_
        refine J.region ?_
        refine O.p (Pu.assign rfl) rfl ?_
        refine O.nil ?_
        refine J.blk ?_
        refine J.blk ?_
        refine J.region ?_
        refine O.p (Pu.add' rfl rfl (by first | omega | (simp only [List.length_append, List.length_cons, List.length_nil, List.length_set]; omega))) rfl ?_
        refine O.p (Pu.move rfl) rfl ?_
        refine O.nil ?_
        exact J.lp ⟨k + 1, 0⟩ (show (k + 1) ≤ (Mono.of s l).length ∧ 0 = upI Dw.calmF 0 (Mono.of s l) (k + 1) ∧ (0 : Int) ≤ 0 ∧ 0 ≤ ((k + 1) : Int) from ⟨by omega, (by rw [upI_succ (by assumption), ← hst]; simp [Dw.calmF, *]), by omega, by omega⟩) (show (Mono.of s l).length - (k + 1) < (Mono.of s l).length - k from (by first | omega | (simp only [List.length_append, List.length_cons, List.length_nil, List.length_set]; omega))) ⟨rfl, rfl, rfl, rfl, (congrArg (fun z => some (Value.int .i64 z)) (by first | rfl | omega : ((k : Int) + 1 : Int) = ((k + 1) : Int))), trivial⟩ [1] (by decide) rfl
    ·
      have p12 := of_decide_eq_false h7
      refine O.gskip (t := 20) rfl rfl (no_bool (by rw [h7]; decide)) rfl rfl ?_
      refine O.gskip (t := 20) rfl rfl (no_bool (by rw [h7]; decide)) rfl rfl ?_
      refine O.gskip (t := 20) rfl rfl (no_bool (by rw [h7]; decide)) rfl rfl ?_
      refine O.p (Pu.pickF rfl h7 rfl) rfl ?_
      refine O.p (Pu.assign rfl) rfl ?_
      refine O.nil ?_
      refine J.condF rfl rfl ?_
      refine J.seq ?_
      refine J.region ?_
      refine O.p (Pu.fieldAddr (off' := 0) Try.runUnderlying93 rfl Try.sizeOf3 rfl rfl rfl) rfl ?_
      refine O.q (Qt.ld rfl (Cel.var 0 rfl) (o := 0) (off := 0) rfl (Cut.one Try.isAgg3 rfl)) rfl ?_
      refine O.p (Pu.eql rfl rfl) rfl ?_
      refine O.p (Pu.move rfl) rfl ?_
      refine O.gq (t := 31) rfl rfl h7 rfl (Pu.qt (Pu.fieldAddr (off' := 0) Try.runUnderlying93 rfl Try.sizeOf3 rfl rfl rfl)) rfl ?_
      refine O.gq (t := 31) rfl rfl h7 rfl (Qt.ld rfl (Cel.var 0 rfl) (o := 0) (off := 0) rfl (Cut.one Try.isAgg3 rfl)) rfl ?_
      refine O.gq (t := 31) rfl rfl h7 rfl (Pu.qt (Pu.eql rfl rfl)) rfl ?_
      refine O.p (Pu.pickF rfl h7 rfl) rfl ?_
      refine O.p (Pu.move rfl) rfl ?_
      refine by_bool (decide (e5.kind = 11)) (fun h13 => ?_) (fun h13 => ?_)
      ·
        have p14 := of_decide_eq_true h13
        refine O.gskip (t := 36) rfl rfl (no_bool (by rw [h13]; decide)) rfl rfl ?_
        refine O.gskip (t := 36) rfl rfl (no_bool (by rw [h13]; decide)) rfl rfl ?_
        refine O.gskip (t := 36) rfl rfl (no_bool (by rw [h13]; decide)) rfl rfl ?_
        refine O.p (Pu.pickT rfl h13 rfl) rfl ?_
        refine O.p (Pu.assign rfl) rfl ?_
        refine O.nil ?_
        refine J.condT rfl rfl ?_
        refine J.region ?_
        refine O.p (Pu.assign rfl) rfl ?_
        refine O.nil ?_
        refine J.blk ?_
        refine J.blk ?_
        refine J.region ?_
        refine O.p (Pu.add' rfl rfl (by first | omega | (simp only [List.length_append, List.length_cons, List.length_nil, List.length_set]; omega))) rfl ?_
        refine O.p (Pu.move rfl) rfl ?_
        refine O.nil ?_
        exact J.lp ⟨k + 1, 0⟩ (show (k + 1) ≤ (Mono.of s l).length ∧ 0 = upI Dw.calmF 0 (Mono.of s l) (k + 1) ∧ (0 : Int) ≤ 0 ∧ 0 ≤ ((k + 1) : Int) from ⟨by omega, (by rw [upI_succ (by assumption), ← hst]; simp [Dw.calmF, *]), by omega, by omega⟩) (show (Mono.of s l).length - (k + 1) < (Mono.of s l).length - k from (by first | omega | (simp only [List.length_append, List.length_cons, List.length_nil, List.length_set]; omega))) ⟨rfl, rfl, rfl, rfl, (congrArg (fun z => some (Value.int .i64 z)) (by first | rfl | omega : ((k : Int) + 1 : Int) = ((k + 1) : Int))), trivial⟩ [1] (by decide) rfl
      ·
        have p15 := of_decide_eq_false h13
        refine O.gq (t := 36) rfl rfl h13 rfl (Pu.qt (Pu.fieldAddr (off' := 0) Try.runUnderlying93 rfl Try.sizeOf3 rfl rfl rfl)) rfl ?_
        refine O.gq (t := 36) rfl rfl h13 rfl (Qt.ld rfl (Cel.var 0 rfl) (o := 0) (off := 0) rfl (Cut.one Try.isAgg3 rfl)) rfl ?_
        refine O.gq (t := 36) rfl rfl h13 rfl (Pu.qt (Pu.eql rfl rfl)) rfl ?_
        refine O.p (Pu.pickF rfl h13 rfl) rfl ?_
        refine O.p (Pu.assign rfl) rfl ?_
        refine O.nil ?_
        refine J.cond rfl (fun h16 => ?_) (fun h16 => ?_)
        ·
          have p17 := of_decide_eq_true h16
          refine J.region ?_
          refine O.p (Pu.assign rfl) rfl ?_
          refine O.nil ?_
          refine J.blk ?_
          refine J.blk ?_
          refine J.region ?_
          refine O.p (Pu.add' rfl rfl (by first | omega | (simp only [List.length_append, List.length_cons, List.length_nil, List.length_set]; omega))) rfl ?_
          refine O.p (Pu.move rfl) rfl ?_
          refine O.nil ?_
          exact J.lp ⟨k + 1, 0⟩ (show (k + 1) ≤ (Mono.of s l).length ∧ 0 = upI Dw.calmF 0 (Mono.of s l) (k + 1) ∧ (0 : Int) ≤ 0 ∧ 0 ≤ ((k + 1) : Int) from ⟨by omega, (by rw [upI_succ (by assumption), ← hst]; simp [Dw.calmF, *]), by omega, by omega⟩) (show (Mono.of s l).length - (k + 1) < (Mono.of s l).length - k from (by first | omega | (simp only [List.length_append, List.length_cons, List.length_nil, List.length_set]; omega))) ⟨rfl, rfl, rfl, rfl, (congrArg (fun z => some (Value.int .i64 z)) (by first | rfl | omega : ((k : Int) + 1 : Int) = ((k + 1) : Int))), trivial⟩ [1] (by decide) rfl
        ·
          have p18 := of_decide_eq_false h16
          refine J.skip ?_
          refine J.blk ?_
          refine J.blk ?_
          refine J.region ?_
          refine O.p (Pu.add' rfl rfl (by first | omega | (simp only [List.length_append, List.length_cons, List.length_nil, List.length_set]; omega))) rfl ?_
          refine O.p (Pu.move rfl) rfl ?_
          refine O.nil ?_
          exact J.lp ⟨k + 1, n⟩ (show (k + 1) ≤ (Mono.of s l).length ∧ n = upI Dw.calmF 0 (Mono.of s l) (k + 1) ∧ (0 : Int) ≤ n ∧ n ≤ ((k + 1) : Int) from ⟨by omega, (by rw [upI_succ (by assumption), ← hst]; simp [Dw.calmF, *]), by omega, by omega⟩) (show (Mono.of s l).length - (k + 1) < (Mono.of s l).length - k from (by first | omega | (simp only [List.length_append, List.length_cons, List.length_nil, List.length_set]; omega))) ⟨rfl, rfl, rfl, rfl, (congrArg (fun z => some (Value.int .i64 z)) (by first | rfl | omega : ((k : Int) + 1 : Int) = ((k + 1) : Int))), trivial⟩ [1] (by decide) rfl
  ·
    have p19 := of_decide_eq_false h3
    refine J.exit _ rfl ?_
    refine J.seq ?_
    refine J.region ?_
    refine O.p (Pu.move rfl) rfl ?_
    refine O.p (Pu.assign rfl) rfl ?_
    refine O.nil ?_
    exact J.ret (Fin.ret (rs := [.tmp 4]) rfl [_] ⟨rfl, trivial⟩ [] (by decide) [] rfl ⟨(by have hk2 : k = (Mono.of s l).length := (by omega); rw [Dw.calm, ← hk2, ← hst]; rfl), rfl⟩)

end Go.Proofs.Ytghhjhjpccipaaa
