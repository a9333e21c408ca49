/-
  Walks, printed by a program of mine (lk.py): each function meets its contract.
-/
import Derived.KernelRfl
import Derived.Test.YtnfkoohgdcocdaaDoorKX1
import Derived.Test.YtnfkoohgdcocdaaDoorTrace2
import Derived.Test.YtnfkoohgdcocdaaDoorNumsB
namespace Go.Proofs.YtnfkoohgdcocdaaDoor
open Go Go.LK
set_option linter.unusedSimpArgs false

set_option maxRecDepth 100000 in
theorem tc_Word (k : Int) : Tri Tryd.prog 18 #[.int .i64 k] [var 0 (Tc.kinds.map vS) 111] [] (fun v L' => v = .tuple #[str (Tc.word k).1, .bool (Tc.word k).2] ∧ L' = []) := by
  refine Tri.enter (args := [.int .i64 k]) (body := _) 14 Tryd.func18 rfl Tryd.ntmps18 rfl ?_
  intro w0
  refine J.seq ?_
  refine J.region ?_
  refine O.p (Pu.assign rfl) rfl ?_
  refine O.p (Pu.assign rfl) rfl ?_
  refine O.nil ?_
  refine J.seq ?_
  refine J.seq ?_
  refine J.region ?_
  refine O.p (Pu.move rfl) rfl ?_
  refine O.p (Pu.lss rfl rfl) rfl ?_
  refine O.p (Pu.move rfl) rfl ?_
  refine by_bool (decide (k < 1)) (fun h1 => ?_) (fun h1 => ?_)
  ·
    have p2 := of_decide_eq_true h1
    refine O.gskip (t := 6) rfl rfl (no_bool (by rw [h1]; decide)) rfl rfl ?_
    refine O.gskip (t := 6) rfl rfl (no_bool (by rw [h1]; decide)) rfl rfl ?_
    refine O.p (Pu.pickT rfl h1 rfl) rfl ?_
    refine O.nil ?_
    refine J.condT rfl rfl ?_
    refine J.seq ?_
    refine J.region ?_
    refine O.p (Pu.assign rfl) rfl ?_
    refine O.p (Pu.assign rfl) rfl ?_
    refine O.nil ?_
    exact J.ret (Fin.ret (rs := [.tmp 2, .tmp 3]) rfl [_, _] ⟨rfl, rfl, trivial⟩ [] (by decide) [] rfl ⟨(by rw [Tc.word_no (by omega)]; rfl), rfl⟩)
  ·
    have p3 := of_decide_eq_false h1
    refine O.gq (t := 6) rfl rfl h1 rfl (Pu.qt (Pu.move rfl)) rfl ?_
    refine O.gq (t := 6) rfl rfl h1 rfl (Pu.qt (Pu.gtr rfl rfl)) rfl ?_
    refine O.p (Pu.pickF rfl h1 rfl) rfl ?_
    refine O.nil ?_
    refine J.cond rfl (fun h4 => ?_) (fun h4 => ?_)
    ·
      have p5 := of_decide_eq_true h4
      refine J.seq ?_
      refine J.region ?_
      refine O.p (Pu.assign rfl) rfl ?_
      refine O.p (Pu.assign rfl) rfl ?_
      refine O.nil ?_
      exact J.ret (Fin.ret (rs := [.tmp 2, .tmp 3]) rfl [_, _] ⟨rfl, rfl, trivial⟩ [] (by decide) [] rfl ⟨(by rw [Tc.word_no (by omega)]; rfl), rfl⟩)
    ·
      have p6 := of_decide_eq_false h4
      refine J.skip ?_
      refine J.seq ?_
      refine J.region ?_
      refine O.p (Pu.move rfl) rfl ?_
      refine O.p (Pu.sub' rfl rfl (by first | omega | (simp only [List.length_append, List.length_cons, List.length_nil, List.length_set]; omega))) rfl ?_
      obtain ⟨e7, he8⟩ : ∃ x_, Tc.kinds[(k - 1).toNat]? = some x_ := ⟨_, List.getElem?_eq_getElem (by first | omega | (have h_ : Tc.kinds.length = 15 := rfl; omega))⟩
      refine O.p (Pu.indexAddrG Tryd.runUnderlying111 Tryd.sizeOf9 rfl rfl (by first | omega | (have h_ : Tc.kinds.length = 15 := rfl; omega)) (by first | omega | (have h_ : Tc.kinds.length = 15 := rfl; omega))) rfl ?_
      refine O.q (Qt.ld rfl (Cel.roVar 0 rfl) (o := 0) (off := (k - 1).toNat) (by omega) (Cut.one Tryd.isAgg9 (at_map he8))) rfl ?_
      refine O.p (Pu.assign rfl) rfl ?_
      refine O.p (Pu.assign rfl) rfl ?_
      refine O.nil ?_
      exact J.ret (Fin.ret (rs := [.tmp 2, .tmp 3]) rfl [_, _] ⟨rfl, rfl, trivial⟩ [] (by decide) [] rfl ⟨(by rw [Tc.word_yes (by omega) (by omega) (by assumption)]; rfl), rfl⟩)

set_option maxRecDepth 100000 in
theorem fr_Who (n : Int) (hn : Dc.I64 n) : Tri Tryd.prog 74 #[.int .i64 n] [libW] [] (fun v L' => v = str (Tc.who n) ∧ L' = []) := by
  refine Tri.enter (args := [.int .i64 n]) (body := _) 7 Tryd.func74 rfl Tryd.ntmps74 rfl ?_
  intro w0
  refine J.seq ?_
  refine J.region ?_
  refine O.p (Pu.assign rfl) rfl ?_
  refine O.nil ?_
  refine J.seq ?_
  refine J.seq ?_
  refine J.region ?_
  refine O.p (Pu.move rfl) rfl ?_
  refine O.p (Pu.eql rfl rfl) rfl ?_
  refine O.nil ?_
  refine J.cond rfl (fun h1 => ?_) (fun h1 => ?_)
  ·
    have p2 := of_decide_eq_true h1
    refine J.seq ?_
    refine J.region ?_
    refine O.p (Pu.assign rfl) rfl ?_
    refine O.nil ?_
    exact J.ret (Fin.ret (rs := [.tmp 2]) rfl [_] ⟨rfl, trivial⟩ [] (by decide) [] rfl ⟨(by first | (rw [Tc.who_yes (by omega)]; rfl) | (rw [Tc.who_no (by omega)]; rfl)), rfl⟩)
  ·
    have p3 := of_decide_eq_false h1
    refine J.skip ?_
    refine J.seq ?_
    refine J.region ?_
    refine O.p (Pu.move rfl) rfl ?_
    refine O.l (Lo.call [.int .i64 n] (by exact Tryd.call72) rfl (dec_Text n (by unfold Dc.I64 at hn; omega) (by unfold Dc.I64 at hn; omega)) [] [] (by decide) rfl _ rfl (RoOk.ro 0 rfl [] rfl RoOk.nil)) rfl ?_
    rintro _ _ ⟨_, ⟨rfl, rfl⟩, rfl⟩
    refine O.p (Pu.assign rfl) rfl ?_
    refine O.nil ?_
    exact J.ret (Fin.ret (rs := [.tmp 2]) rfl [_] ⟨rfl, trivial⟩ [] (by decide) [] rfl ⟨(by first | (rw [Tc.who_yes (by omega)]; rfl) | (rw [Tc.who_no (by omega)]; rfl)), rfl⟩)

set_option maxRecDepth 100000 in
theorem r27_Who (n : Int) (hn : Dc.I64 n) : Tri Tryd.prog 77 #[.int .i64 n] [] [] (fun v L' => v = str (Tc.who n) ∧ L' = []) := by
  refine Tri.enter (args := [.int .i64 n]) (body := _) 7 Tryd.func77 rfl Tryd.ntmps77 rfl ?_
  intro w0
  refine J.seq ?_
  refine J.region ?_
  refine O.p (Pu.assign rfl) rfl ?_
  refine O.nil ?_
  refine J.seq ?_
  refine J.seq ?_
  refine J.region ?_
  refine O.p (Pu.move rfl) rfl ?_
  refine O.p (Pu.eql rfl rfl) rfl ?_
  refine O.nil ?_
  refine J.cond rfl (fun h1 => ?_) (fun h1 => ?_)
  ·
    have p2 := of_decide_eq_true h1
    refine J.seq ?_
    refine J.region ?_
    refine O.p (Pu.assign rfl) rfl ?_
    refine O.nil ?_
    exact J.ret (Fin.ret (rs := [.tmp 2]) rfl [_] ⟨rfl, trivial⟩ [] (by decide) [] rfl ⟨(by first | (rw [Tc.who_yes (by omega)]; rfl) | (rw [Tc.who_no (by omega)]; rfl)), rfl⟩)
  ·
    have p3 := of_decide_eq_false h1
    refine J.skip ?_
    refine J.seq ?_
    refine J.region ?_
    refine O.p (Pu.move rfl) rfl ?_
    refine O.l (Lo.call [.int .i64 n] (by exact Tryd.call76) rfl (r05_Text n (by assumption)) [] [] (by decide) rfl _ rfl RoOk.nil) rfl ?_
    rintro _ _ ⟨_, ⟨rfl, rfl⟩, rfl⟩
    refine O.p (Pu.assign rfl) rfl ?_
    refine O.nil ?_
    exact J.ret (Fin.ret (rs := [.tmp 2]) rfl [_] ⟨rfl, trivial⟩ [] (by decide) [] rfl ⟨(by first | (rw [Tc.who_yes (by omega)]; rfl) | (rw [Tc.who_no (by omega)]; rfl)), rfl⟩)

set_option maxRecDepth 100000 in
theorem tc_Line (e : Ev) (hv : Tc.EvI e) : Tri Tryd.prog 14 #[.agg #[.int .i64 e.kind, .int .i64 e.tick, .int .i64 e.s, .int .i64 e.id, .int .i64 e.code, .int .i64 e.a, .int .i64 e.b]] [libW, var 0 (Tc.kinds.map vS) 111] [] (fun v L' => v = .tuple #[str (Tc.line e).1, .int .i64 (Tc.line e).2] ∧ L' = []) := by
  refine Tri.enter (args := [.agg #[.int .i64 e.kind, .int .i64 e.tick, .int .i64 e.s, .int .i64 e.id, .int .i64 e.code, .int .i64 e.a, .int .i64 e.b]]) (body := _) 41 Tryd.func14 rfl Tryd.ntmps14 rfl ?_
  intro w0
  refine J.seq ?_
  refine J.region ?_
  refine O.l (Lo.box [.int .i64 e.kind, .int .i64 e.tick, .int .i64 e.s, .int .i64 e.id, .int .i64 e.code, .int .i64 e.a, .int .i64 e.b] rfl rfl) rfl ?_
  rintro _ _ ⟨g1, rfl, rfl⟩
  refine O.p (Pu.assign rfl) rfl ?_
  refine O.p (Pu.assign rfl) rfl ?_
  refine O.nil ?_
  refine J.seq ?_
  refine J.region ?_
  refine O.p (Pu.fieldAddr (off' := 0) Tryd.runUnderlying23 rfl Tryd.sizeOf3 rfl rfl rfl) rfl ?_
  refine O.q (Qt.ld rfl (Cel.var 0 rfl) (o := 0) (off := 0) rfl (Cut.one Tryd.isAgg3 rfl)) rfl ?_
  refine O.l (Lo.call [.int .i64 e.kind] (by exact Tryd.call18) rfl (tc_Word e.kind) [] [0] (by decide) rfl _ rfl (RoOk.ro 1 rfl [] rfl RoOk.nil)) rfl ?_
  rintro _ _ ⟨_, ⟨rfl, rfl⟩, rfl⟩
  refine O.p (Pu.move rfl) rfl ?_
  refine O.p (Pu.extract rfl rfl) rfl ?_
  refine O.p (Pu.extract rfl rfl) rfl ?_
  refine O.p (Pu.assign rfl) rfl ?_
  refine O.p (Pu.assign rfl) rfl ?_
  refine O.nil ?_
  refine J.seq ?_
  refine J.seq ?_
  refine J.region ?_
  refine O.p (Pu.move rfl) rfl ?_
  refine O.p (Pu.not rfl) rfl ?_
  refine O.nil ?_
  refine J.cond rfl (fun h3 => ?_) (fun h3 => ?_)
  ·
    have h4 : ((Tc.word e.kind).2) = false := not_flip h3
    refine J.seq ?_
    refine J.region ?_
    refine O.p (Pu.assign rfl) rfl ?_
    refine O.p (Pu.assign rfl) rfl ?_
    refine O.nil ?_
    exact J.ret (Fin.ret (rs := [.tmp 2, .tmp 3]) rfl [_, _] ⟨rfl, rfl, trivial⟩ [] (by decide) [] rfl ⟨(by rw [Tc.line_no (by assumption)]; rfl), rfl⟩)
  ·
    have h5 : ((Tc.word e.kind).2) = true := not_flip h3
    refine J.skip ?_
    refine J.seq ?_
    refine J.region ?_
    refine O.p (Pu.assign rfl) rfl ?_
    refine O.nil ?_
    refine J.seq ?_
    refine J.drawMix [(0, false), (1, false), (2, false), (4, false), (5, false), (6, false), (8, false), (9, false), (10, false), (12, false), (13, false), (14, false), (16, false), (17, false), (18, false), (20, false), (21, false), (22, false), (3, true), (7, false), (11, true), (15, true), (19, true), (23, true), (24, true), (25, false), (26, false), (27, false)] [0] [var g1 [.int .i64 e.kind, .int .i64 e.tick, .int .i64 e.s, .int .i64 e.id, .int .i64 e.code, .int .i64 e.a, .int .i64 e.b] 23] Tryd.mixed (by kernel_rfl) (by decide) rfl ?_
    refine Mx.p rfl (Pu.move rfl) rfl ?_
    refine Mx.p rfl (Pu.fieldAddr (off' := 1) Tryd.runUnderlying23 rfl Tryd.sizeOf3 rfl rfl rfl) rfl ?_
    refine Mx.q rfl (Qt.ld rfl (Cel.var 0 rfl) (o := 0) (off := 1) rfl (Cut.one Tryd.isAgg3 rfl)) rfl ?_
    refine Mx.p rfl (Pu.move rfl) rfl ?_
    refine Mx.p rfl (Pu.fieldAddr (off' := 2) Tryd.runUnderlying23 rfl Tryd.sizeOf3 rfl rfl rfl) rfl ?_
    refine Mx.q rfl (Qt.ld rfl (Cel.var 0 rfl) (o := 0) (off := 2) rfl (Cut.one Tryd.isAgg3 rfl)) rfl ?_
    refine Mx.p rfl (Pu.move rfl) rfl ?_
    refine Mx.p rfl (Pu.fieldAddr (off' := 3) Tryd.runUnderlying23 rfl Tryd.sizeOf3 rfl rfl rfl) rfl ?_
    refine Mx.q rfl (Qt.ld rfl (Cel.var 0 rfl) (o := 0) (off := 3) rfl (Cut.one Tryd.isAgg3 rfl)) rfl ?_
    refine Mx.p rfl (Pu.move rfl) rfl ?_
    refine Mx.p rfl (Pu.fieldAddr (off' := 4) Tryd.runUnderlying23 rfl Tryd.sizeOf3 rfl rfl rfl) rfl ?_
    refine Mx.q rfl (Qt.ld rfl (Cel.var 0 rfl) (o := 0) (off := 4) rfl (Cut.one Tryd.isAgg3 rfl)) rfl ?_
    refine Mx.p rfl (Pu.move rfl) rfl ?_
    refine Mx.p rfl (Pu.fieldAddr (off' := 5) Tryd.runUnderlying23 rfl Tryd.sizeOf3 rfl rfl rfl) rfl ?_
    refine Mx.q rfl (Qt.ld rfl (Cel.var 0 rfl) (o := 0) (off := 5) rfl (Cut.one Tryd.isAgg3 rfl)) rfl ?_
    refine Mx.p rfl (Pu.move rfl) rfl ?_
    refine Mx.p rfl (Pu.fieldAddr (off' := 6) Tryd.runUnderlying23 rfl Tryd.sizeOf3 rfl rfl rfl) rfl ?_
    refine Mx.q rfl (Qt.ld rfl (Cel.var 0 rfl) (o := 0) (off := 6) rfl (Cut.one Tryd.isAgg3 rfl)) rfl ?_
    refine Mx.l rfl (Lo.callV (vs := [.int .i64 e.tick]) (caps := []) (by exact Tryd.call72) rfl rfl (dec_Text e.tick (by first | omega | (have h1_ := hv.tick; have h2_ := hv.id; have h3_ := hv.code; have h4_ := hv.a; have h5_ := hv.b; have h6_ := hv.kind; unfold Dc.I64 at *; omega)) (by first | omega | (have h1_ := hv.tick; have h2_ := hv.id; have h3_ := hv.code; have h4_ := hv.a; have h5_ := hv.b; have h6_ := hv.kind; unfold Dc.I64 at *; omega))) [] [0] (by decide) rfl _ rfl (RoOk.ro 0 rfl [] rfl RoOk.nil)) rfl ?_
    rintro _ _ ⟨_, ⟨rfl, rfl⟩, rfl⟩
    refine MxK.go [0] [0] [var g1 [.int .i64 e.kind, .int .i64 e.tick, .int .i64 e.s, .int .i64 e.id, .int .i64 e.code, .int .i64 e.a, .int .i64 e.b] 23] (by decide) rfl (by decide) rfl ?_
    refine Mx.call (vs := [.int .i64 e.s]) (caps := []) rfl (by exact Tryd.call74) rfl rfl (fr_Who e.s (by first | exact hv.tick | exact hv.s | exact hv.id | exact hv.code | exact hv.a | exact hv.b | exact hv.kind)) (fun _ _ h => h) (RoOk.ro 0 rfl [] rfl RoOk.nil) rfl ?_
    refine Mx.l rfl (Lo.callV (vs := [.int .i64 e.id]) (caps := []) (by exact Tryd.call72) rfl rfl (dec_Text e.id (by first | omega | (have h1_ := hv.tick; have h2_ := hv.id; have h3_ := hv.code; have h4_ := hv.a; have h5_ := hv.b; have h6_ := hv.kind; unfold Dc.I64 at *; omega)) (by first | omega | (have h1_ := hv.tick; have h2_ := hv.id; have h3_ := hv.code; have h4_ := hv.a; have h5_ := hv.b; have h6_ := hv.kind; unfold Dc.I64 at *; omega))) [] [0] (by decide) rfl _ rfl (RoOk.ro 0 rfl [] rfl RoOk.nil)) rfl ?_
    rintro _ _ ⟨_, ⟨rfl, rfl⟩, rfl⟩
    refine MxK.go [0] [0] [var g1 [.int .i64 e.kind, .int .i64 e.tick, .int .i64 e.s, .int .i64 e.id, .int .i64 e.code, .int .i64 e.a, .int .i64 e.b] 23] (by decide) rfl (by decide) rfl ?_
    refine Mx.l rfl (Lo.callV (vs := [.int .i64 e.code]) (caps := []) (by exact Tryd.call72) rfl rfl (dec_Text e.code (by first | omega | (have h1_ := hv.tick; have h2_ := hv.id; have h3_ := hv.code; have h4_ := hv.a; have h5_ := hv.b; have h6_ := hv.kind; unfold Dc.I64 at *; omega)) (by first | omega | (have h1_ := hv.tick; have h2_ := hv.id; have h3_ := hv.code; have h4_ := hv.a; have h5_ := hv.b; have h6_ := hv.kind; unfold Dc.I64 at *; omega))) [] [0] (by decide) rfl _ rfl (RoOk.ro 0 rfl [] rfl RoOk.nil)) rfl ?_
    rintro _ _ ⟨_, ⟨rfl, rfl⟩, rfl⟩
    refine MxK.go [0] [0] [var g1 [.int .i64 e.kind, .int .i64 e.tick, .int .i64 e.s, .int .i64 e.id, .int .i64 e.code, .int .i64 e.a, .int .i64 e.b] 23] (by decide) rfl (by decide) rfl ?_
    refine Mx.l rfl (Lo.callV (vs := [.int .i64 e.a]) (caps := []) (by exact Tryd.call72) rfl rfl (dec_Text e.a (by first | omega | (have h1_ := hv.tick; have h2_ := hv.id; have h3_ := hv.code; have h4_ := hv.a; have h5_ := hv.b; have h6_ := hv.kind; unfold Dc.I64 at *; omega)) (by first | omega | (have h1_ := hv.tick; have h2_ := hv.id; have h3_ := hv.code; have h4_ := hv.a; have h5_ := hv.b; have h6_ := hv.kind; unfold Dc.I64 at *; omega))) [] [0] (by decide) rfl _ rfl (RoOk.ro 0 rfl [] rfl RoOk.nil)) rfl ?_
    rintro _ _ ⟨_, ⟨rfl, rfl⟩, rfl⟩
    refine MxK.go [0] [0] [var g1 [.int .i64 e.kind, .int .i64 e.tick, .int .i64 e.s, .int .i64 e.id, .int .i64 e.code, .int .i64 e.a, .int .i64 e.b] 23] (by decide) rfl (by decide) rfl ?_
    refine Mx.l rfl (Lo.callV (vs := [.int .i64 e.b]) (caps := []) (by exact Tryd.call72) rfl rfl (dec_Text e.b (by first | omega | (have h1_ := hv.tick; have h2_ := hv.id; have h3_ := hv.code; have h4_ := hv.a; have h5_ := hv.b; have h6_ := hv.kind; unfold Dc.I64 at *; omega)) (by first | omega | (have h1_ := hv.tick; have h2_ := hv.id; have h3_ := hv.code; have h4_ := hv.a; have h5_ := hv.b; have h6_ := hv.kind; unfold Dc.I64 at *; omega))) [] [0] (by decide) rfl _ rfl (RoOk.ro 0 rfl [] rfl RoOk.nil)) rfl ?_
    rintro _ _ ⟨_, ⟨rfl, rfl⟩, rfl⟩
    refine MxK.go [0] [0] [var g1 [.int .i64 e.kind, .int .i64 e.tick, .int .i64 e.s, .int .i64 e.id, .int .i64 e.code, .int .i64 e.a, .int .i64 e.b] 23] (by decide) rfl (by decide) rfl ?_
    refine Mx.l rfl (Lo.buildM (s := 1) encS [[97, 116], Lib.itoa e.tick, (Tc.word e.kind).1, Tc.who e.s, Lib.itoa e.id, Lib.itoa e.code, Lib.itoa e.a, Lib.itoa e.b] [(0, str ([97, 116])), (1, str (Lib.itoa e.tick)), (2, str ((Tc.word e.kind).1)), (3, str (Tc.who e.s)), (4, str (Lib.itoa e.id)), (5, str (Lib.itoa e.code)), (6, str (Lib.itoa e.a)), (7, str (Lib.itoa e.b))] (by exact Tryd.runUnderlying32) (by exact Tryd.sizeOf9) (by exact Tryd.zeroValue9) rfl rfl rfl (by kernel_rfl) rfl rfl) rfl ?_
    rintro V11 _ rfl
    refine MxK.go [0, 1] [1] [row V11 9 1 (([[97, 116], Lib.itoa e.tick, (Tc.word e.kind).1, Tc.who e.s, Lib.itoa e.id, Lib.itoa e.code, Lib.itoa e.a, Lib.itoa e.b]).map encS), var g1 [.int .i64 e.kind, .int .i64 e.tick, .int .i64 e.s, .int .i64 e.id, .int .i64 e.code, .int .i64 e.a, .int .i64 e.b] 23] (by decide) rfl (by decide) rfl ?_
    refine Mx.call (vs := [V11]) (caps := []) rfl (by exact Tryd.call73) rfl rfl (w_Join V11 ([[97, 116], Lib.itoa e.tick, (Tc.word e.kind).1, Tc.who e.s, Lib.itoa e.id, Lib.itoa e.code, Lib.itoa e.a, Lib.itoa e.b]) (by simp) (by simp) (by intro x_ hx_; have h_ := Tc.lineW_le hv (by have h2_ := Tc.kinds_len _ (Tc.word_is (by assumption)).2.2.1; omega) x_ hx_; omega)) (fun _ _ h => h) (RoOk.of 0 rfl row_rd [] (by decide) rfl RoOk.nil) rfl ?_
    refine Mx.p rfl (Pu.assign rfl) rfl ?_
    refine Mx.p rfl (Pu.assign rfl) rfl ?_
    refine Mx.nil ?_
    exact J.ret (Fin.ret (rs := [.tmp 2, .tmp 3]) rfl [_, _] ⟨rfl, rfl, trivial⟩ [] (by decide) [] rfl ⟨(by rw [Tc.line_yes (by assumption)]; rfl), rfl⟩)

set_option maxRecDepth 100000 in
theorem r39_Words  : Tri Tryd.prog 19 #[] [] [] (fun v L' => L' = [row v 9 1 (([] :: Tc.kinds).map encS)]) := by
  refine Tri.enter (args := []) (body := _) 2 Tryd.func19 rfl Tryd.ntmps19 rfl ?_
  intro w0
  refine J.seq ?_
  refine J.region ?_
  refine O.p (Pu.assign rfl) rfl ?_
  refine O.nil ?_
  refine J.seq ?_
  refine J.region ?_
  refine O.l (Lo.buildM (s := 1) encS [([] : List UInt8), [99, 97, 109, 101], [116, 119, 105, 99, 101], [115, 116, 97, 114, 116], [101, 110, 100], [99, 97, 108, 108], [115, 107, 105, 112], [104, 101, 97, 114, 100], [108, 101, 97, 114, 110], [99, 108, 111, 115, 101], [112, 117, 115, 104], [114, 101, 115, 116, 97, 114, 116], [101, 114, 97, 115, 101], [97, 115, 107], [97, 110, 115, 119, 101, 114], [108, 111, 115, 116]] [(0, str ([] : List UInt8)), (1, str ([99, 97, 109, 101])), (2, str ([116, 119, 105, 99, 101])), (3, str ([115, 116, 97, 114, 116])), (4, str ([101, 110, 100])), (5, str ([99, 97, 108, 108])), (6, str ([115, 107, 105, 112])), (7, str ([104, 101, 97, 114, 100])), (8, str ([108, 101, 97, 114, 110])), (9, str ([99, 108, 111, 115, 101])), (10, str ([112, 117, 115, 104])), (11, str ([114, 101, 115, 116, 97, 114, 116])), (12, str ([101, 114, 97, 115, 101])), (13, str ([97, 115, 107])), (14, str ([97, 110, 115, 119, 101, 114])), (15, str ([108, 111, 115, 116]))] (by exact Tryd.runUnderlying32) (by exact Tryd.sizeOf9) (by exact Tryd.zeroValue9) rfl rfl rfl (by kernel_rfl) rfl rfl) rfl ?_
  rintro V1 _ rfl
  refine O.p (Pu.assign rfl) rfl ?_
  refine O.nil ?_
  exact J.ret (Fin.ret (rs := [.tmp 0]) rfl [_] ⟨rfl, trivial⟩ [0] (by decide) [row V1 9 1 (([([] : List UInt8), [99, 97, 109, 101], [116, 119, 105, 99, 101], [115, 116, 97, 114, 116], [101, 110, 100], [99, 97, 108, 108], [115, 107, 105, 112], [104, 101, 97, 114, 100], [108, 101, 97, 114, 110], [99, 108, 111, 115, 101], [112, 117, 115, 104], [114, 101, 115, 116, 97, 114, 116], [101, 114, 97, 115, 101], [97, 115, 107], [97, 110, 115, 119, 101, 114], [108, 111, 115, 116]]).map encS)] rfl rfl)

set_option maxRecDepth 100000 in
theorem r39_Line (e : Ev) (hv : Tc.EvI e) : Tri Tryd.prog 15 #[.agg #[.int .i64 e.kind, .int .i64 e.tick, .int .i64 e.s, .int .i64 e.id, .int .i64 e.code, .int .i64 e.a, .int .i64 e.b]] [] [] (fun v L' => v = .tuple #[str (Tc.line e).1, .int .i64 (Tc.line e).2] ∧ L' = []) := by
  refine Tri.enter (args := [.agg #[.int .i64 e.kind, .int .i64 e.tick, .int .i64 e.s, .int .i64 e.id, .int .i64 e.code, .int .i64 e.a, .int .i64 e.b]]) (body := _) 37 Tryd.func15 rfl Tryd.ntmps15 rfl ?_
  intro w0
  refine J.seq ?_
  refine J.region ?_
  refine O.l (Lo.box [.int .i64 e.kind, .int .i64 e.tick, .int .i64 e.s, .int .i64 e.id, .int .i64 e.code, .int .i64 e.a, .int .i64 e.b] rfl rfl) rfl ?_
  rintro _ _ ⟨g1, rfl, rfl⟩
  refine O.p (Pu.assign rfl) rfl ?_
  refine O.p (Pu.assign rfl) rfl ?_
  refine O.nil ?_
  refine J.seq ?_
  refine J.seq ?_
  refine J.region ?_
  refine O.p (Pu.fieldAddr (off' := 0) Tryd.runUnderlying23 rfl Tryd.sizeOf3 rfl rfl rfl) rfl ?_
  refine O.q (Qt.ld rfl (Cel.var 0 rfl) (o := 0) (off := 0) rfl (Cut.one Tryd.isAgg3 rfl)) rfl ?_
  refine O.p (Pu.lss rfl rfl) rfl ?_
  refine O.p (Pu.move rfl) rfl ?_
  refine by_bool (decide (e.kind < 1)) (fun h2 => ?_) (fun h2 => ?_)
  ·
    have p3 := of_decide_eq_true h2
    refine O.gskip (t := 7) rfl rfl (no_bool (by rw [h2]; decide)) rfl rfl ?_
    refine O.gskip (t := 7) rfl rfl (no_bool (by rw [h2]; decide)) rfl rfl ?_
    refine O.gskip (t := 7) rfl rfl (no_bool (by rw [h2]; decide)) rfl rfl ?_
    refine O.p (Pu.pickT rfl h2 rfl) rfl ?_
    refine O.nil ?_
    refine J.condT rfl rfl ?_
    refine J.seq ?_
    refine J.region ?_
    refine O.p (Pu.assign rfl) rfl ?_
    refine O.p (Pu.assign rfl) rfl ?_
    refine O.nil ?_
    exact J.ret (Fin.ret (rs := [.tmp 2, .tmp 3]) rfl [_, _] ⟨rfl, rfl, trivial⟩ [] (by decide) [] rfl ⟨(by rw [Tc.line_out (by omega)]; rfl), rfl⟩)
  ·
    have p4 := of_decide_eq_false h2
    refine O.gq (t := 7) rfl rfl h2 rfl (Pu.qt (Pu.fieldAddr (off' := 0) Tryd.runUnderlying23 rfl Tryd.sizeOf3 rfl rfl rfl)) rfl ?_
    refine O.gq (t := 7) rfl rfl h2 rfl (Qt.ld rfl (Cel.var 0 rfl) (o := 0) (off := 0) rfl (Cut.one Tryd.isAgg3 rfl)) rfl ?_
    refine O.gq (t := 7) rfl rfl h2 rfl (Pu.qt (Pu.gtr rfl rfl)) rfl ?_
    refine O.p (Pu.pickF rfl h2 rfl) rfl ?_
    refine O.nil ?_
    refine J.cond rfl (fun h5 => ?_) (fun h5 => ?_)
    ·
      have p6 := of_decide_eq_true h5
      refine J.seq ?_
      refine J.region ?_
      refine O.p (Pu.assign rfl) rfl ?_
      refine O.p (Pu.assign rfl) rfl ?_
      refine O.nil ?_
      exact J.ret (Fin.ret (rs := [.tmp 2, .tmp 3]) rfl [_, _] ⟨rfl, rfl, trivial⟩ [] (by decide) [] rfl ⟨(by rw [Tc.line_out (by omega)]; rfl), rfl⟩)
    ·
      have p7 := of_decide_eq_false h5
      refine J.skip ?_
      refine J.seq ?_
      refine J.drawMix [(0, false), (1, false), (2, false), (4, false), (5, false), (8, false), (9, false), (11, false), (12, false), (14, false), (15, false), (17, false), (18, false), (20, false), (21, false), (3, true), (6, false), (7, false), (10, false), (13, false), (16, false), (19, false), (22, false), (23, true), (24, false), (25, false), (26, false)] [0] [var g1 [.int .i64 e.kind, .int .i64 e.tick, .int .i64 e.s, .int .i64 e.id, .int .i64 e.code, .int .i64 e.a, .int .i64 e.b] 23] Tryd.mixed (by kernel_rfl) (by decide) rfl ?_
      refine Mx.p rfl (Pu.fieldAddr (off' := 1) Tryd.runUnderlying23 rfl Tryd.sizeOf3 rfl rfl rfl) rfl ?_
      refine Mx.q rfl (Qt.ld rfl (Cel.var 0 rfl) (o := 0) (off := 1) rfl (Cut.one Tryd.isAgg3 rfl)) rfl ?_
      refine Mx.call (vs := [.int .i64 e.tick]) (caps := []) rfl (by exact Tryd.call76) rfl rfl (r05_Text e.tick (by first | exact hv.tick | exact hv.s | exact hv.id | exact hv.code | exact hv.a | exact hv.b | exact hv.kind)) (fun _ _ h => h) RoOk.nil rfl ?_
      refine Mx.p rfl (Pu.fieldAddr (off' := 0) Tryd.runUnderlying23 rfl Tryd.sizeOf3 rfl rfl rfl) rfl ?_
      refine Mx.q rfl (Qt.ld rfl (Cel.var 0 rfl) (o := 0) (off := 0) rfl (Cut.one Tryd.isAgg3 rfl)) rfl ?_
      refine Mx.p rfl (Pu.fieldAddr (off' := 2) Tryd.runUnderlying23 rfl Tryd.sizeOf3 rfl rfl rfl) rfl ?_
      refine Mx.q rfl (Qt.ld rfl (Cel.var 0 rfl) (o := 0) (off := 2) rfl (Cut.one Tryd.isAgg3 rfl)) rfl ?_
      refine Mx.p rfl (Pu.fieldAddr (off' := 3) Tryd.runUnderlying23 rfl Tryd.sizeOf3 rfl rfl rfl) rfl ?_
      refine Mx.q rfl (Qt.ld rfl (Cel.var 0 rfl) (o := 0) (off := 3) rfl (Cut.one Tryd.isAgg3 rfl)) rfl ?_
      refine Mx.p rfl (Pu.fieldAddr (off' := 4) Tryd.runUnderlying23 rfl Tryd.sizeOf3 rfl rfl rfl) rfl ?_
      refine Mx.q rfl (Qt.ld rfl (Cel.var 0 rfl) (o := 0) (off := 4) rfl (Cut.one Tryd.isAgg3 rfl)) rfl ?_
      refine Mx.p rfl (Pu.fieldAddr (off' := 5) Tryd.runUnderlying23 rfl Tryd.sizeOf3 rfl rfl rfl) rfl ?_
      refine Mx.q rfl (Qt.ld rfl (Cel.var 0 rfl) (o := 0) (off := 5) rfl (Cut.one Tryd.isAgg3 rfl)) rfl ?_
      refine Mx.p rfl (Pu.fieldAddr (off' := 6) Tryd.runUnderlying23 rfl Tryd.sizeOf3 rfl rfl rfl) rfl ?_
      refine Mx.q rfl (Qt.ld rfl (Cel.var 0 rfl) (o := 0) (off := 6) rfl (Cut.one Tryd.isAgg3 rfl)) rfl ?_
      refine Mx.l rfl (Lo.call [] (by exact Tryd.call19) rfl r39_Words [] [0] (by decide) rfl _ rfl RoOk.nil) rfl ?_
      rintro v8 _ ⟨_, rfl, rfl⟩
      refine MxK.go [0, 1] [1] [row v8 9 1 (([] :: Tc.kinds).map encS), var g1 [.int .i64 e.kind, .int .i64 e.tick, .int .i64 e.s, .int .i64 e.id, .int .i64 e.code, .int .i64 e.a, .int .i64 e.b] 23] (by decide) rfl (by decide) rfl ?_
      obtain ⟨e9, he9⟩ : ∃ x_, ([] :: Tc.kinds)[(e.kind).toNat]? = some x_ := ⟨_, List.getElem?_eq_getElem (by first | omega | (have h_ : ([] :: Tc.kinds : List Wd.Bs).length = 16 := rfl; omega))⟩
      refine Mx.q rfl (Qt.idxM Tryd.runUnderlying32 Tryd.sizeOf9 rfl (Src.row 0 rfl) rfl (by first | omega | (have h_ : ([] :: Tc.kinds : List Wd.Bs).length = 16 := rfl; omega)) (by first | omega | (have h_ : ([] :: Tc.kinds : List Wd.Bs).length = 16 := rfl; omega))) rfl ?_
      refine Mx.q rfl (Qt.ld rfl (Cel.eltM (Src.row 0 rfl) he9) (o := (voff v8 + ((e.kind).toNat) * 1)) (off := 0) (by omega) (Cut.one Tryd.isAgg9 rfl)) rfl ?_
      refine Mx.call (vs := [.int .i64 e.s]) (caps := []) rfl (by exact Tryd.call77) rfl rfl (r27_Who e.s (by first | exact hv.tick | exact hv.s | exact hv.id | exact hv.code | exact hv.a | exact hv.b | exact hv.kind)) (fun _ _ h => h) RoOk.nil rfl ?_
      refine Mx.call (vs := [.int .i64 e.id]) (caps := []) rfl (by exact Tryd.call76) rfl rfl (r05_Text e.id (by first | exact hv.tick | exact hv.s | exact hv.id | exact hv.code | exact hv.a | exact hv.b | exact hv.kind)) (fun _ _ h => h) RoOk.nil rfl ?_
      refine Mx.call (vs := [.int .i64 e.code]) (caps := []) rfl (by exact Tryd.call76) rfl rfl (r05_Text e.code (by first | exact hv.tick | exact hv.s | exact hv.id | exact hv.code | exact hv.a | exact hv.b | exact hv.kind)) (fun _ _ h => h) RoOk.nil rfl ?_
      refine Mx.call (vs := [.int .i64 e.a]) (caps := []) rfl (by exact Tryd.call76) rfl rfl (r05_Text e.a (by first | exact hv.tick | exact hv.s | exact hv.id | exact hv.code | exact hv.a | exact hv.b | exact hv.kind)) (fun _ _ h => h) RoOk.nil rfl ?_
      refine Mx.call (vs := [.int .i64 e.b]) (caps := []) rfl (by exact Tryd.call76) rfl rfl (r05_Text e.b (by first | exact hv.tick | exact hv.s | exact hv.id | exact hv.code | exact hv.a | exact hv.b | exact hv.kind)) (fun _ _ h => h) RoOk.nil rfl ?_
      refine Mx.l rfl (Lo.buildM (s := 1) encS [[97, 116], Lib.itoa e.tick, e9, Tc.who e.s, Lib.itoa e.id, Lib.itoa e.code, Lib.itoa e.a, Lib.itoa e.b] [(0, str ([97, 116])), (1, str (Lib.itoa e.tick)), (2, str e9), (3, str (Tc.who e.s)), (4, str (Lib.itoa e.id)), (5, str (Lib.itoa e.code)), (6, str (Lib.itoa e.a)), (7, str (Lib.itoa e.b))] (by exact Tryd.runUnderlying32) (by exact Tryd.sizeOf9) (by exact Tryd.zeroValue9) rfl rfl rfl (by kernel_rfl) rfl rfl) rfl ?_
      rintro V10 _ rfl
      refine MxK.go [0, 1, 2] [1, 2] [row V10 9 1 (([[97, 116], Lib.itoa e.tick, e9, Tc.who e.s, Lib.itoa e.id, Lib.itoa e.code, Lib.itoa e.a, Lib.itoa e.b]).map encS), row v8 9 1 (([] :: Tc.kinds).map encS), var g1 [.int .i64 e.kind, .int .i64 e.tick, .int .i64 e.s, .int .i64 e.id, .int .i64 e.code, .int .i64 e.a, .int .i64 e.b] 23] (by decide) rfl (by decide) rfl ?_
      refine Mx.call (vs := [V10]) (caps := []) rfl (by exact Tryd.call75) rfl rfl (r06_Join V10 ([[97, 116], Lib.itoa e.tick, e9, Tc.who e.s, Lib.itoa e.id, Lib.itoa e.code, Lib.itoa e.a, Lib.itoa e.b]) (by simp) (by intro x_ hx_; have hw_ := Tc.word_cons (k := e.kind) (by omega) (by omega) (by assumption); have h_ := Tc.lineW_le hv (by have h2_ := Tc.kinds_len _ (Tc.word_mem hw_); omega) x_ hx_; omega)) (fun _ _ h => h) (RoOk.of 0 rfl row_rd [] (by decide) rfl RoOk.nil) rfl ?_
      refine Mx.p rfl (Pu.assign rfl) rfl ?_
      refine Mx.p rfl (Pu.assign rfl) rfl ?_
      refine Mx.nil ?_
      exact J.ret (Fin.ret (rs := [.tmp 2, .tmp 3]) rfl [_, _] ⟨rfl, rfl, trivial⟩ [] (by decide) [] rfl ⟨(by rw [Tc.line_at (Tc.word_cons (by omega) (by omega) (by assumption))]; rfl), rfl⟩)

set_option maxRecDepth 100000 in
theorem tc_next (gn gw : Nat) (lv : Value) (l : List Wd.Bs) (n : Nat) (e : Wd.Bs) (he : l[n]? = some e) (hl : l.length ≤ 1000) : Tri Tryd.prog 79 #[.pointer (some ⟨gn, 0, none⟩), .pointer (some ⟨gw, 0, none⟩)] [var gw [lv] 32, rd lv 1 (l.map encS)] [var gn [.int .i64 (n : Int)] 3] (fun v L' => v = str e ∧ L' = [var gn [.int .i64 ((n : Int) + 1)] 3]) := by
  have hn_ := (List.getElem?_eq_some_iff.1 he).1
  refine Tri.enter (args := [.pointer (some ⟨gn, 0, none⟩), .pointer (some ⟨gw, 0, none⟩)]) (body := _) 10 Tryd.func79 rfl Tryd.ntmps79 rfl ?_
  intro w0
  refine J.seq ?_
  refine J.region ?_
  refine O.p (Pu.assign rfl) rfl ?_
  refine O.nil ?_
  refine J.seq ?_
  refine J.region ?_
  refine O.q (Qt.ld rfl (Cel.var 0 rfl) (o := 0) (off := 0) rfl (Cut.one Tryd.isAgg3 rfl)) rfl ?_
  refine O.p (Pu.add' rfl rfl (by first | omega | (simp only [List.length_append, List.length_cons, List.length_nil, List.length_set]; omega))) rfl ?_
  refine O.l0 (Lo.store 0 (vs := [.int .i64 ((n : Int) + 1)]) [.int .i64 ((n : Int) + 1)] rfl rfl rfl (by exact Tryd.sizeOf3) rfl rfl rfl rfl rfl) ?_
  rintro _ _ rfl
  refine O.nil ?_
  refine J.seq ?_
  refine J.region ?_
  refine O.q (Qt.ld rfl (Cel.roVar 0 rfl) (o := 0) (off := 0) rfl (Cut.one Tryd.isAgg32 rfl)) rfl ?_
  refine O.q (Qt.ld rfl (Cel.var 0 rfl) (o := 0) (off := 0) rfl (Cut.one Tryd.isAgg3 rfl)) rfl ?_
  refine O.p (Pu.to (Pu.sub' rfl rfl (by first | omega | (simp only [List.length_append, List.length_cons, List.length_nil, List.length_set]; omega))) (congrArg (Value.int .i64) (show ((n : Int) + 1) - 1 = (n : Int) from (by omega)))) rfl ?_
  obtain ⟨e1, he1⟩ : ∃ x_, l[n]? = some x_ := ⟨_, List.getElem?_eq_getElem (by first | omega | (simp only [List.length_append, List.length_cons, List.length_nil, List.length_set]; omega))⟩
  refine O.q (Qt.idxM Tryd.runUnderlying32 Tryd.sizeOf9 rfl (Src.ro 1 rfl) rfl (by first | omega | (simp only [List.length_append, List.length_cons, List.length_nil, List.length_set]; omega)) (by first | omega | (simp only [List.length_append, List.length_cons, List.length_nil, List.length_set]; omega))) rfl ?_
  refine O.q (Qt.ld rfl (Cel.eltM (Src.ro 1 rfl) he1) (o := (voff lv + n * 1)) (off := 0) (by omega) (Cut.one Tryd.isAgg9 rfl)) rfl ?_
  refine O.p (Pu.assign rfl) rfl ?_
  refine O.nil ?_
  exact J.ret (Fin.ret (rs := [.tmp 2]) rfl [_] ⟨rfl, trivial⟩ [0] (by decide) [var gn [.int .i64 ((n : Int) + 1)] 3] rfl ⟨(by have h_ := he.symm.trans he1; cases h_; rfl), rfl⟩)

set_option maxRecDepth 100000 in
theorem tc_num (gf gr gn gw : Nat) (lv : Value) (l : List Wd.Bs) (n : Nat) (e : Wd.Bs) (r : Bool) (he : l[n]? = some e) (hl : l.length ≤ 1000) (hb : e.length ≤ 100000) : Tri Tryd.prog 80 #[.pointer (some ⟨gf, 0, none⟩), .pointer (some ⟨gr, 0, none⟩)] [libW, var gf [.func (.func 79) #[] #[.pointer (some ⟨gn, 0, none⟩), .pointer (some ⟨gw, 0, none⟩)]] 106, var gw [lv] 32, rd lv 1 (l.map encS)] [var gr [.bool r] 4, var gn [.int .i64 (n : Int)] 3] (fun v L' => v = .int .i64 (Dc.parse e).1 ∧ L' = [var gr [.bool (r && decide ((Dc.parse e).2 = 0))] 4, var gn [.int .i64 ((n : Int) + 1)] 3]) := by
  refine Tri.enter (args := [.pointer (some ⟨gf, 0, none⟩), .pointer (some ⟨gr, 0, none⟩)]) (body := _) 17 Tryd.func80 rfl Tryd.ntmps80 rfl ?_
  intro w0
  refine J.seq ?_
  refine J.region ?_
  refine O.p (Pu.assign rfl) rfl ?_
  refine O.nil ?_
  refine J.seq ?_
  refine J.region ?_
  refine O.q (Qt.ld rfl (Cel.roVar 1 rfl) (o := 0) (off := 0) rfl (Cut.one Tryd.isAgg106 rfl)) rfl ?_
  refine O.l (Lo.callV (vs := []) (caps := [.pointer (some ⟨gn, 0, none⟩), .pointer (some ⟨gw, 0, none⟩)]) (by exact Tryd.call79) rfl rfl (tc_next gn gw lv l n e he (by assumption)) [1] [0] (by decide) rfl _ rfl (RoOk.ro 2 rfl [1] rfl (RoOk.ro 3 rfl [1] rfl RoOk.nil))) rfl ?_
  rintro _ _ ⟨_, ⟨rfl, rfl⟩, rfl⟩
  refine O.l (Lo.call [str e] (by exact Tryd.call81) rfl (dec_Parse e (by omega)) [] [0, 1] (by decide) rfl _ rfl (RoOk.ro 0 rfl [] rfl RoOk.nil)) rfl ?_
  rintro _ _ ⟨_, ⟨rfl, rfl⟩, rfl⟩
  refine O.p (Pu.move rfl) rfl ?_
  refine O.p (Pu.extract rfl rfl) rfl ?_
  refine O.p (Pu.extract rfl rfl) rfl ?_
  refine O.p (Pu.assign rfl) rfl ?_
  refine O.p (Pu.assign rfl) rfl ?_
  refine O.nil ?_
  refine J.seq ?_
  refine J.region ?_
  refine O.q (Qt.ld rfl (Cel.var 1 rfl) (o := 0) (off := 0) rfl (Cut.one Tryd.isAgg4 rfl)) rfl ?_
  refine O.p (Pu.move rfl) rfl ?_
  refine by_bool r (fun h3 => ?_) (fun h3 => ?_)
  ·
    subst h3
    refine O.gq (t := 12) rfl rfl rfl rfl (Pu.qt (Pu.move rfl)) rfl ?_
    refine O.gq (t := 12) rfl rfl rfl rfl (Pu.qt (Pu.eql rfl rfl)) rfl ?_
    refine O.p (Pu.pickT rfl rfl rfl) rfl ?_
    refine O.l0 (Lo.store 1 (vs := [.bool (decide (((Dc.parse e).2) = 0))]) [.bool (decide (((Dc.parse e).2) = 0))] rfl rfl rfl (by exact Tryd.sizeOf4) rfl rfl rfl rfl rfl) ?_
    rintro _ _ rfl
    refine O.nil ?_
    refine J.seq ?_
    refine J.region ?_
    refine O.p (Pu.move rfl) rfl ?_
    refine O.p (Pu.assign rfl) rfl ?_
    refine O.nil ?_
    exact J.ret (Fin.ret (rs := [.tmp 2]) rfl [_] ⟨rfl, trivial⟩ [1, 0] (by decide) [var gr [.bool (decide (((Dc.parse e).2) = 0))] 4, var gn [.int .i64 ((n : Int) + 1)] 3] rfl ⟨rfl, rfl⟩)
  ·
    subst h3
    refine O.gskip (t := 12) rfl rfl (no_bool (by decide)) rfl rfl ?_
    refine O.gskip (t := 12) rfl rfl (no_bool (by decide)) rfl rfl ?_
    refine O.p (Pu.pickF rfl rfl rfl) rfl ?_
    refine O.l0 (Lo.store 1 (vs := [.bool false]) [.bool false] rfl rfl rfl (by exact Tryd.sizeOf4) rfl rfl rfl rfl rfl) ?_
    rintro _ _ rfl
    refine O.nil ?_
    refine J.seq ?_
    refine J.region ?_
    refine O.p (Pu.move rfl) rfl ?_
    refine O.p (Pu.assign rfl) rfl ?_
    refine O.nil ?_
    exact J.ret (Fin.ret (rs := [.tmp 2]) rfl [_] ⟨rfl, trivial⟩ [1, 0] (by decide) [var gr [.bool false] 4, var gn [.int .i64 ((n : Int) + 1)] 3] rfl ⟨rfl, rfl⟩)

end Go.Proofs.YtnfkoohgdcocdaaDoor
