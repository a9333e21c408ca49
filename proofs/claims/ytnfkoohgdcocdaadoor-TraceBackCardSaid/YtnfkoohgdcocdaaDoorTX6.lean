/-
  Walks, printed by a program of mine (lk.py): each function meets its contract.
-/
import Derived.KernelRfl
import Derived.Test.YtnfkoohgdcocdaaDoorTX5
namespace Go.Proofs.YtnfkoohgdcocdaaDoor
open Go Go.LK
set_option linter.unusedSimpArgs false

theorem tc_Line_eq (e : Ev) (t : List UInt8) (c : Int) (hv : Tc.EvI e) (h : Tc.line e = (t, c)) : Tri Tryd.prog 14 #[.agg (Ev.cells e).toArray] [libW, var 0 (Tc.kinds.map vS) 111] [] (fun v L' => v = .tuple #[str t, .int .i64 c] ∧ L' = []) := by
  have := tc_Line e hv
  rw [h] at this
  exact this
theorem tc_Parse_eq (s : List UInt8) (e : Ev) (c : Int) (hs : s.length ≤ 100000) (h : Tc.parse s = (e, c)) : Tri Tryd.prog 16 #[str s] [libW, var 0 (Tc.kinds.map vS) 111] [] (fun v L' => v = .tuple #[.agg (Ev.cells e).toArray, .int .i64 c] ∧ L' = []) := by
  have := tc_Parse s hs
  rw [h] at this
  exact this
theorem trace_Count_eq (lv : Value) (l : List Ev) (m : List Int) (hl : l.length ≤ 100000) (h : Tc.cnt l = m) : Tri Tryd.prog 23 #[lv] [rd lv 7 (l.map Ev.cells)] [] (fun v L' => L' = [row v 3 1 (m.map encZ)]) := by
  subst h
  exact trace_Count lv l hl

set_option maxRecDepth 100000 in
theorem law39_awake  : Tri Tryd.prog 13 #[] [libW, var 0 (Tc.kinds.map vS) 111] [] (fun v L' => v = .bool true ∧ L' = []) := by
  refine Tri.enter (args := []) (body := _) 56 Tryd.func13 rfl Tryd.ntmps13 rfl ?_
  intro w0
  refine J.seq ?_
  refine J.region ?_
  refine O.p (Pu.assign rfl) rfl ?_
  refine O.nil ?_
  refine J.seq ?_
  refine J.region ?_
  refine O.p (Pu.build [(0, .int .i64 4), (1, .int .i64 3), (3, .int .i64 5), (4, .int .i64 2), (5, .int .i64 4)] [.int .i64 4, .int .i64 3, .int .i64 0, .int .i64 5, .int .i64 2, .int .i64 4, .int .i64 0] #[(0, 1), (1, 1), (2, 1), (3, 1), (4, 1), (5, 1), (6, 1)] Tryd.runUnderlying23 Tryd.zeroValue23 (places23 Tryd.underlying23) rfl (by kernel_rfl)) rfl ?_
  refine O.l (Lo.alloc [.int .i64 0, .int .i64 0, .int .i64 0, .int .i64 0, .int .i64 0, .int .i64 0, .int .i64 0] (by exact Tryd.zeroValue23) rfl) rfl ?_
  rintro _ _ ⟨g1, rfl, rfl⟩
  refine O.l0 (Lo.store 0 (vs := [.int .i64 4, .int .i64 3, .int .i64 0, .int .i64 5, .int .i64 2, .int .i64 4, .int .i64 0]) [.int .i64 4, .int .i64 3, .int .i64 0, .int .i64 5, .int .i64 2, .int .i64 4, .int .i64 0] rfl rfl rfl (by exact Tryd.sizeOf23) rfl rfl rfl rfl rfl) ?_
  rintro _ _ rfl
  refine O.nil ?_
  refine J.seq ?_
  refine J.region ?_
  refine O.q (Qt.ld rfl (Cel.var 0 rfl) (o := 0) (off := 0) rfl (Cut.agg [.int .i64 4, .int .i64 3, .int .i64 0, .int .i64 5, .int .i64 2, .int .i64 4, .int .i64 0] Tryd.isAgg23 Tryd.sizeOf23 rfl rfl)) rfl ?_
  refine O.l (Lo.call [.agg #[.int .i64 4, .int .i64 3, .int .i64 0, .int .i64 5, .int .i64 2, .int .i64 4, .int .i64 0]] (by exact Tryd.call14) rfl (tc_Line_eq Tc.awEv [97, 116, 32, 51, 32, 101, 110, 100, 32, 48, 32, 53, 32, 50, 32, 52, 32, 48] 0 Tc.aw_EvI Tc.aw_line) [] [0] (by decide) rfl [var g1 [.int .i64 4, .int .i64 3, .int .i64 0, .int .i64 5, .int .i64 2, .int .i64 4, .int .i64 0] 23] rfl (RoOk.ro 0 rfl [] rfl (RoOk.ro 1 rfl [] rfl RoOk.nil))) rfl ?_
  rintro _ _ ⟨_, ⟨rfl, rfl⟩, rfl⟩
  refine O.p (Pu.move rfl) rfl ?_
  refine O.p (Pu.extract rfl rfl) rfl ?_
  refine O.p (Pu.extract rfl rfl) rfl ?_
  refine O.p (Pu.assign rfl) rfl ?_
  refine O.p (Pu.assign rfl) rfl ?_
  refine O.nil ?_
  refine J.seq ?_
  refine J.region ?_
  refine O.l (Lo.call [str ([32, 32, 97, 116, 32, 51, 32, 101, 110, 100, 32, 48, 32, 53, 32, 50, 32, 52, 32, 48, 32, 35, 32, 120])] (by exact Tryd.call16) rfl (tc_Parse_eq [32, 32, 97, 116, 32, 51, 32, 101, 110, 100, 32, 48, 32, 53, 32, 50, 32, 52, 32, 48, 32, 35, 32, 120] Tc.awEv 0 (by decide) Tc.aw_parse) [] [0] (by decide) rfl [var g1 [.int .i64 4, .int .i64 3, .int .i64 0, .int .i64 5, .int .i64 2, .int .i64 4, .int .i64 0] 23] rfl (RoOk.ro 0 rfl [] rfl (RoOk.ro 1 rfl [] rfl RoOk.nil))) rfl ?_
  rintro _ _ ⟨_, ⟨rfl, rfl⟩, rfl⟩
  refine O.p (Pu.move rfl) rfl ?_
  refine O.p (Pu.extract rfl rfl) rfl ?_
  refine O.p (Pu.extract rfl rfl) rfl ?_
  refine O.l (Lo.alloc [.int .i64 0, .int .i64 0, .int .i64 0, .int .i64 0, .int .i64 0, .int .i64 0, .int .i64 0] (by exact Tryd.zeroValue23) rfl) rfl ?_
  rintro _ _ ⟨g4, rfl, rfl⟩
  refine O.l0 (Lo.store 0 (vs := [.int .i64 4, .int .i64 3, .int .i64 0, .int .i64 5, .int .i64 2, .int .i64 4, .int .i64 0]) [.int .i64 4, .int .i64 3, .int .i64 0, .int .i64 5, .int .i64 2, .int .i64 4, .int .i64 0] rfl rfl rfl (by exact Tryd.sizeOf23) rfl rfl rfl rfl rfl) ?_
  rintro _ _ rfl
  refine O.p (Pu.assign rfl) rfl ?_
  refine O.nil ?_
  refine J.seq ?_
  refine J.region ?_
  refine O.l (Lo.call [str ([97, 116, 32, 51, 32, 101, 110, 100, 32, 48, 32, 53, 32, 50, 32, 52])] (by exact Tryd.call16) rfl (tc_Parse_eq [97, 116, 32, 51, 32, 101, 110, 100, 32, 48, 32, 53, 32, 50, 32, 52] Tc.noEv 2 (by decide) Tc.aw_few) [] [0, 1] (by decide) rfl [var g4 [.int .i64 4, .int .i64 3, .int .i64 0, .int .i64 5, .int .i64 2, .int .i64 4, .int .i64 0] 23, var g1 [.int .i64 4, .int .i64 3, .int .i64 0, .int .i64 5, .int .i64 2, .int .i64 4, .int .i64 0] 23] rfl (RoOk.ro 0 rfl [] rfl (RoOk.ro 1 rfl [] rfl RoOk.nil))) rfl ?_
  rintro _ _ ⟨_, ⟨rfl, rfl⟩, rfl⟩
  refine O.p (Pu.move rfl) rfl ?_
  refine O.p (Pu.extract rfl rfl) rfl ?_
  refine O.p (Pu.extract rfl rfl) rfl ?_
  refine O.l (Lo.alloc [.int .i64 0, .int .i64 0, .int .i64 0, .int .i64 0, .int .i64 0, .int .i64 0, .int .i64 0] (by exact Tryd.zeroValue23) rfl) rfl ?_
  rintro _ _ ⟨g6, rfl, rfl⟩
  refine O.l0 (Lo.store 0 (vs := [.int .i64 0, .int .i64 0, .int .i64 0, .int .i64 0, .int .i64 0, .int .i64 0, .int .i64 0]) [.int .i64 0, .int .i64 0, .int .i64 0, .int .i64 0, .int .i64 0, .int .i64 0, .int .i64 0] rfl rfl rfl (by exact Tryd.sizeOf23) rfl rfl rfl rfl rfl) ?_
  rintro _ _ rfl
  refine O.p (Pu.assign rfl) rfl ?_
  refine O.nil ?_
  refine J.seq ?_
  refine J.region ?_
  refine O.p (Pu.move rfl) rfl ?_
  refine O.p (Pu.sEql rfl rfl) rfl ?_
  refine O.p (Pu.move rfl) rfl ?_
  refine O.gq (t := 24) rfl rfl (by simp) rfl (Pu.qt (Pu.move rfl)) rfl ?_
  refine O.gq (t := 24) rfl rfl (by simp) rfl (Pu.qt (Pu.eql rfl rfl)) rfl ?_
  refine O.p (Pu.pickT rfl (by simp) rfl) rfl ?_
  refine O.p (Pu.move rfl) rfl ?_
  refine O.gq (t := 28) rfl rfl rfl rfl (Qt.ld rfl (Cel.var 1 rfl) (o := 0) (off := 0) rfl (Cut.agg [.int .i64 4, .int .i64 3, .int .i64 0, .int .i64 5, .int .i64 2, .int .i64 4, .int .i64 0] Tryd.isAgg23 Tryd.sizeOf23 rfl rfl)) rfl ?_
  refine O.gq (t := 28) rfl rfl rfl rfl (Qt.ld rfl (Cel.var 2 rfl) (o := 0) (off := 0) rfl (Cut.agg [.int .i64 4, .int .i64 3, .int .i64 0, .int .i64 5, .int .i64 2, .int .i64 4, .int .i64 0] Tryd.isAgg23 Tryd.sizeOf23 rfl rfl)) rfl ?_
  refine O.gq (t := 28) rfl rfl rfl rfl (Pu.qt (Pu.eqlI [4, 3, 0, 5, 2, 4, 0] [4, 3, 0, 5, 2, 4, 0] Tryd.underlying23 Tryd.stoodInHeld23 Tryd.eqGuardType23 (fint23 Tryd.underlying23) rfl rfl rfl rfl)) rfl ?_
  refine O.p (Pu.pickT rfl rfl rfl) rfl ?_
  refine O.p (Pu.move rfl) rfl ?_
  refine O.gq (t := 33) rfl rfl (by simp) rfl (Pu.qt (Pu.move rfl)) rfl ?_
  refine O.gq (t := 33) rfl rfl (by simp) rfl (Pu.qt (Pu.eql rfl rfl)) rfl ?_
  refine O.p (Pu.pickT rfl (by simp) rfl) rfl ?_
  refine O.p (Pu.move rfl) rfl ?_
  refine O.gq (t := 37) rfl rfl rfl rfl (Pu.qt (Pu.move rfl)) rfl ?_
  refine O.gq (t := 37) rfl rfl rfl rfl (Pu.qt (Pu.eql rfl rfl)) rfl ?_
  refine O.p (Pu.pickT rfl rfl rfl) rfl ?_
  refine O.p (Pu.move rfl) rfl ?_
  refine O.gq (t := 41) rfl rfl rfl rfl (Qt.ld rfl (Cel.var 2 rfl) (o := 0) (off := 0) rfl (Cut.agg [.int .i64 4, .int .i64 3, .int .i64 0, .int .i64 5, .int .i64 2, .int .i64 4, .int .i64 0] Tryd.isAgg23 Tryd.sizeOf23 rfl rfl)) rfl ?_
  refine O.gl (t := 41) rfl rfl rfl rfl (Lo.buildM (s := 7) Ev.cells [(⟨4, 3, 0, 5, 2, 4, 0⟩ : Ev)] [(0, .agg #[.int .i64 4, .int .i64 3, .int .i64 0, .int .i64 5, .int .i64 2, .int .i64 4, .int .i64 0])] (by exact Tryd.runUnderlying35) (by exact Tryd.sizeOf23) (by exact Tryd.zeroValue23) rfl rfl rfl (by kernel_rfl) rfl rfl) rfl ?_
  rintro V7 _ rfl
  refine O.gl (t := 41) rfl rfl rfl rfl (Lo.call [V7] (by exact Tryd.call23) rfl (trace_Count_eq V7 ([(⟨4, 3, 0, 5, 2, 4, 0⟩ : Ev)]) ([0, 0, 0, 0, 1, 0, 0, 0, 0, 0, 0, 0, 0, 0, 0, 0] : List Int) (by decide) (by decide)) [] [0, 1, 2, 3] (by decide) rfl [row V7 23 7 (([(⟨4, 3, 0, 5, 2, 4, 0⟩ : Ev)]).map Ev.cells), var g6 [.int .i64 0, .int .i64 0, .int .i64 0, .int .i64 0, .int .i64 0, .int .i64 0, .int .i64 0] 23, var g4 [.int .i64 4, .int .i64 3, .int .i64 0, .int .i64 5, .int .i64 2, .int .i64 4, .int .i64 0] 23, var g1 [.int .i64 4, .int .i64 3, .int .i64 0, .int .i64 5, .int .i64 2, .int .i64 4, .int .i64 0] 23] rfl (RoOk.of 0 rfl row_rd [] (by decide) rfl RoOk.nil)) rfl ?_
  rintro v8 _ ⟨_, rfl, rfl⟩
  refine O.gq (t := 41) rfl rfl rfl rfl (Qt.lenM Tryd.runUnderlying40 rfl (Src.row 0 rfl)) rfl ?_
  refine O.gq (t := 41) rfl rfl rfl rfl (Pu.qt (Pu.eql rfl rfl)) rfl ?_
  refine O.p (Pu.pickT rfl rfl rfl) rfl ?_
  refine O.p (Pu.move rfl) rfl ?_
  refine O.gq (t := 48) rfl rfl rfl rfl (Qt.ld rfl (Cel.var 4 rfl) (o := 0) (off := 0) rfl (Cut.agg [.int .i64 4, .int .i64 3, .int .i64 0, .int .i64 5, .int .i64 2, .int .i64 4, .int .i64 0] Tryd.isAgg23 Tryd.sizeOf23 rfl rfl)) rfl ?_
  refine O.gl (t := 48) rfl rfl rfl rfl (Lo.buildM (s := 7) Ev.cells [(⟨4, 3, 0, 5, 2, 4, 0⟩ : Ev)] [(0, .agg #[.int .i64 4, .int .i64 3, .int .i64 0, .int .i64 5, .int .i64 2, .int .i64 4, .int .i64 0])] (by exact Tryd.runUnderlying35) (by exact Tryd.sizeOf23) (by exact Tryd.zeroValue23) rfl rfl rfl (by kernel_rfl) rfl rfl) rfl ?_
  rintro V9 _ rfl
  refine O.gl (t := 48) rfl rfl rfl rfl (Lo.call [V9] (by exact Tryd.call23) rfl (trace_Count_eq V9 ([(⟨4, 3, 0, 5, 2, 4, 0⟩ : Ev)]) ([0, 0, 0, 0, 1, 0, 0, 0, 0, 0, 0, 0, 0, 0, 0, 0] : List Int) (by decide) (by decide)) [] [0, 1, 2, 3, 4, 5] (by decide) rfl [row V9 23 7 (([(⟨4, 3, 0, 5, 2, 4, 0⟩ : Ev)]).map Ev.cells), row v8 3 1 (([0, 0, 0, 0, 1, 0, 0, 0, 0, 0, 0, 0, 0, 0, 0, 0] : List Int).map encZ), row V7 23 7 (([(⟨4, 3, 0, 5, 2, 4, 0⟩ : Ev)]).map Ev.cells), var g6 [.int .i64 0, .int .i64 0, .int .i64 0, .int .i64 0, .int .i64 0, .int .i64 0, .int .i64 0] 23, var g4 [.int .i64 4, .int .i64 3, .int .i64 0, .int .i64 5, .int .i64 2, .int .i64 4, .int .i64 0] 23, var g1 [.int .i64 4, .int .i64 3, .int .i64 0, .int .i64 5, .int .i64 2, .int .i64 4, .int .i64 0] 23] rfl (RoOk.of 0 rfl row_rd [] (by decide) rfl RoOk.nil)) rfl ?_
  rintro v10 _ ⟨_, rfl, rfl⟩
  obtain ⟨e11, he11⟩ : ∃ x_, ([0, 0, 0, 0, 1, 0, 0, 0, 0, 0, 0, 0, 0, 0, 0, 0] : List Int)[4]? = some x_ := ⟨_, List.getElem?_eq_getElem (by decide)⟩
  refine O.gq (t := 48) rfl rfl rfl rfl (Qt.idxM Tryd.runUnderlying40 Tryd.sizeOf3 rfl (Src.row 0 rfl) rfl (by decide) (by decide)) rfl ?_
  refine O.gq (t := 48) rfl rfl rfl rfl (Qt.ld rfl (Cel.eltM (Src.row 0 rfl) he11) (o := (voff v10 + 4 * 1)) (off := 0) (by omega) (Cut.one Tryd.isAgg3 rfl)) rfl ?_
  refine O.gq (t := 48) rfl rfl rfl rfl (Pu.qt (Pu.eql rfl rfl)) rfl ?_
  refine O.p (Pu.pickT rfl rfl rfl) rfl ?_
  refine O.p (Pu.assign rfl) rfl ?_
  refine O.nil ?_
  exact J.ret (Fin.ret (rs := [.tmp 0]) rfl [_] ⟨rfl, trivial⟩ [] (by decide) [] rfl ⟨(by have h_ : some (1 : Int) = some e11 := he11; cases h_; rfl), rfl⟩)

theorem Word_f {k : Int} {e : Wd.Bs} (h0 : 1 ≤ k) (h1 : k ≤ 15) (he : ([] :: Tc.kinds : List Wd.Bs)[k.toNat]? = some e) : (e == ([] : List UInt8)) = false :=
  (Tc.kinds_word _ (Tc.word_mem (Tc.word_cons h0 h1 he))).f

set_option maxRecDepth 100000 in
theorem law39_traceLines (e : Ev) (s : List UInt8) (k : Int) (hv : Tc.EvI e) : Tri Tryd.prog 3 #[.agg #[.int .i64 e.kind, .int .i64 e.tick, .int .i64 e.s, .int .i64 e.id, .int .i64 e.code, .int .i64 e.a, .int .i64 e.b], str s, .int .i64 k] [libW, var 0 (Tc.kinds.map vS) 111] [] (fun v L' => v = .bool true ∧ L' = []) := by
  refine Tri.enter (args := [.agg #[.int .i64 e.kind, .int .i64 e.tick, .int .i64 e.s, .int .i64 e.id, .int .i64 e.code, .int .i64 e.a, .int .i64 e.b], str s, .int .i64 k]) (body := _) 89 Tryd.func3 rfl Tryd.ntmps3 rfl ?_
  intro w0
  refine J.seq ?_
  refine J.region ?_
  refine O.l (Lo.box [.int .i64 e.kind, .int .i64 e.tick, .int .i64 e.s, .int .i64 e.id, .int .i64 e.code, .int .i64 e.a, .int .i64 e.b] rfl rfl) rfl ?_
  rintro _ _ ⟨g1, rfl, rfl⟩
  refine O.p (Pu.assign rfl) rfl ?_
  refine O.nil ?_
  refine J.seq ?_
  refine J.seq ?_
  refine J.region ?_
  refine O.p (Pu.move rfl) rfl ?_
  refine O.p (Pu.sLen Tryd.runUnderlying9 rfl) rfl ?_
  refine O.p (Pu.gtr rfl rfl) rfl ?_
  refine O.nil ?_
  refine J.cond rfl (fun h2 => ?_) (fun h2 => ?_)
  ·
    have p3 := of_decide_eq_true h2
    refine J.seq ?_
    refine J.region ?_
    refine O.l (Lo.call [] (by exact Tryd.call13) rfl law39_awake [] [0] (by decide) rfl [var g1 [.int .i64 e.kind, .int .i64 e.tick, .int .i64 e.s, .int .i64 e.id, .int .i64 e.code, .int .i64 e.a, .int .i64 e.b] 23] rfl (RoOk.ro 0 rfl [] rfl (RoOk.ro 1 rfl [] rfl RoOk.nil))) rfl ?_
    rintro _ _ ⟨_, ⟨rfl, rfl⟩, rfl⟩
    refine O.p (Pu.assign rfl) rfl ?_
    refine O.nil ?_
    exact J.ret (Fin.ret (rs := [.tmp 6]) rfl [_] ⟨rfl, trivial⟩ [] (by decide) [] rfl ⟨rfl, rfl⟩)
  ·
    have p5 := of_decide_eq_false h2
    refine J.skip ?_
    refine J.seq ?_
    refine J.region ?_
    refine O.q (Qt.ld rfl (Cel.var 0 rfl) (o := 0) (off := 0) rfl (Cut.agg [.int .i64 e.kind, .int .i64 e.tick, .int .i64 e.s, .int .i64 e.id, .int .i64 e.code, .int .i64 e.a, .int .i64 e.b] Tryd.isAgg23 Tryd.sizeOf23 rfl rfl)) rfl ?_
    refine O.l (Lo.call [.agg #[.int .i64 e.kind, .int .i64 e.tick, .int .i64 e.s, .int .i64 e.id, .int .i64 e.code, .int .i64 e.a, .int .i64 e.b]] (by exact Tryd.call14) rfl (tc_Line e (by assumption)) [] [0] (by decide) rfl [var g1 [.int .i64 e.kind, .int .i64 e.tick, .int .i64 e.s, .int .i64 e.id, .int .i64 e.code, .int .i64 e.a, .int .i64 e.b] 23] rfl (RoOk.ro 0 rfl [] rfl (RoOk.ro 1 rfl [] rfl RoOk.nil))) rfl ?_
    rintro _ _ ⟨_, ⟨rfl, rfl⟩, rfl⟩
    refine O.p (Pu.move rfl) rfl ?_
    refine O.p (Pu.extract rfl rfl) rfl ?_
    refine O.p (Pu.extract rfl rfl) rfl ?_
    refine O.p (Pu.assign rfl) rfl ?_
    refine O.p (Pu.assign rfl) rfl ?_
    refine O.nil ?_
    refine J.seq ?_
    refine J.region ?_
    refine O.q (Qt.ld rfl (Cel.var 0 rfl) (o := 0) (off := 0) rfl (Cut.agg [.int .i64 e.kind, .int .i64 e.tick, .int .i64 e.s, .int .i64 e.id, .int .i64 e.code, .int .i64 e.a, .int .i64 e.b] Tryd.isAgg23 Tryd.sizeOf23 rfl rfl)) rfl ?_
    refine O.l (Lo.call [.agg #[.int .i64 e.kind, .int .i64 e.tick, .int .i64 e.s, .int .i64 e.id, .int .i64 e.code, .int .i64 e.a, .int .i64 e.b]] (by exact Tryd.call15) rfl (r39_Line e (by assumption)) [] [0] (by decide) rfl [var g1 [.int .i64 e.kind, .int .i64 e.tick, .int .i64 e.s, .int .i64 e.id, .int .i64 e.code, .int .i64 e.a, .int .i64 e.b] 23] rfl RoOk.nil) rfl ?_
    rintro _ _ ⟨_, ⟨rfl, rfl⟩, rfl⟩
    refine O.p (Pu.move rfl) rfl ?_
    refine O.p (Pu.extract rfl rfl) rfl ?_
    refine O.p (Pu.extract rfl rfl) rfl ?_
    refine O.p (Pu.assign rfl) rfl ?_
    refine O.p (Pu.assign rfl) rfl ?_
    refine O.nil ?_
    refine J.seq ?_
    refine J.region ?_
    refine O.p (Pu.move rfl) rfl ?_
    refine O.l (Lo.call [str s] (by exact Tryd.call16) rfl (tc_Parse s (by omega)) [] [0] (by decide) rfl [var g1 [.int .i64 e.kind, .int .i64 e.tick, .int .i64 e.s, .int .i64 e.id, .int .i64 e.code, .int .i64 e.a, .int .i64 e.b] 23] rfl (RoOk.ro 0 rfl [] rfl (RoOk.ro 1 rfl [] rfl RoOk.nil))) rfl ?_
    rintro _ _ ⟨_, ⟨rfl, rfl⟩, rfl⟩
    refine O.p (Pu.move rfl) rfl ?_
    refine O.p (Pu.extract rfl rfl) rfl ?_
    refine O.p (Pu.extract rfl rfl) rfl ?_
    refine O.l (Lo.alloc [.int .i64 0, .int .i64 0, .int .i64 0, .int .i64 0, .int .i64 0, .int .i64 0, .int .i64 0] (by exact Tryd.zeroValue23) rfl) rfl ?_
    rintro _ _ ⟨g9, rfl, rfl⟩
    refine O.l0 (Lo.store 0 (vs := [.int .i64 (((Tc.parse s).1).kind), .int .i64 (((Tc.parse s).1).tick), .int .i64 (((Tc.parse s).1).s), .int .i64 (((Tc.parse s).1).id), .int .i64 (((Tc.parse s).1).code), .int .i64 (((Tc.parse s).1).a), .int .i64 (((Tc.parse s).1).b)]) [.int .i64 (((Tc.parse s).1).kind), .int .i64 (((Tc.parse s).1).tick), .int .i64 (((Tc.parse s).1).s), .int .i64 (((Tc.parse s).1).id), .int .i64 (((Tc.parse s).1).code), .int .i64 (((Tc.parse s).1).a), .int .i64 (((Tc.parse s).1).b)] rfl rfl rfl (by exact Tryd.sizeOf23) rfl rfl rfl rfl rfl) ?_
    rintro _ _ rfl
    refine O.p (Pu.assign rfl) rfl ?_
    refine O.nil ?_
    refine J.seq ?_
    refine J.region ?_
    refine O.p (Pu.move rfl) rfl ?_
    refine O.l (Lo.call [str s] (by exact Tryd.call17) rfl (r39_Parse s (by omega)) [] [0, 1] (by decide) rfl [var g9 [.int .i64 (((Tc.parse s).1).kind), .int .i64 (((Tc.parse s).1).tick), .int .i64 (((Tc.parse s).1).s), .int .i64 (((Tc.parse s).1).id), .int .i64 (((Tc.parse s).1).code), .int .i64 (((Tc.parse s).1).a), .int .i64 (((Tc.parse s).1).b)] 23, var g1 [.int .i64 e.kind, .int .i64 e.tick, .int .i64 e.s, .int .i64 e.id, .int .i64 e.code, .int .i64 e.a, .int .i64 e.b] 23] rfl RoOk.nil) rfl ?_
    rintro _ _ ⟨_, ⟨rfl, rfl⟩, rfl⟩
    refine O.p (Pu.move rfl) rfl ?_
    refine O.p (Pu.extract rfl rfl) rfl ?_
    refine O.p (Pu.extract rfl rfl) rfl ?_
    refine O.l (Lo.alloc [.int .i64 0, .int .i64 0, .int .i64 0, .int .i64 0, .int .i64 0, .int .i64 0, .int .i64 0] (by exact Tryd.zeroValue23) rfl) rfl ?_
    rintro _ _ ⟨g11, rfl, rfl⟩
    refine O.l0 (Lo.store 0 (vs := [.int .i64 (((Tc.parse s).1).kind), .int .i64 (((Tc.parse s).1).tick), .int .i64 (((Tc.parse s).1).s), .int .i64 (((Tc.parse s).1).id), .int .i64 (((Tc.parse s).1).code), .int .i64 (((Tc.parse s).1).a), .int .i64 (((Tc.parse s).1).b)]) [.int .i64 (((Tc.parse s).1).kind), .int .i64 (((Tc.parse s).1).tick), .int .i64 (((Tc.parse s).1).s), .int .i64 (((Tc.parse s).1).id), .int .i64 (((Tc.parse s).1).code), .int .i64 (((Tc.parse s).1).a), .int .i64 (((Tc.parse s).1).b)] rfl rfl rfl (by exact Tryd.sizeOf23) rfl rfl rfl rfl rfl) ?_
    rintro _ _ rfl
    refine O.p (Pu.assign rfl) rfl ?_
    refine O.nil ?_
    refine J.seq ?_
    refine J.region ?_
    refine O.p (Pu.move rfl) rfl ?_
    refine O.l (Lo.call [.int .i64 k] (by exact Tryd.call18) rfl (tc_Word k) [] [0, 1, 2] (by decide) rfl [var g11 [.int .i64 (((Tc.parse s).1).kind), .int .i64 (((Tc.parse s).1).tick), .int .i64 (((Tc.parse s).1).s), .int .i64 (((Tc.parse s).1).id), .int .i64 (((Tc.parse s).1).code), .int .i64 (((Tc.parse s).1).a), .int .i64 (((Tc.parse s).1).b)] 23, var g9 [.int .i64 (((Tc.parse s).1).kind), .int .i64 (((Tc.parse s).1).tick), .int .i64 (((Tc.parse s).1).s), .int .i64 (((Tc.parse s).1).id), .int .i64 (((Tc.parse s).1).code), .int .i64 (((Tc.parse s).1).a), .int .i64 (((Tc.parse s).1).b)] 23, var g1 [.int .i64 e.kind, .int .i64 e.tick, .int .i64 e.s, .int .i64 e.id, .int .i64 e.code, .int .i64 e.a, .int .i64 e.b] 23] rfl (RoOk.ro 1 rfl [] rfl RoOk.nil)) rfl ?_
    rintro _ _ ⟨_, ⟨rfl, rfl⟩, rfl⟩
    refine O.p (Pu.move rfl) rfl ?_
    refine O.p (Pu.extract rfl rfl) rfl ?_
    refine O.p (Pu.extract rfl rfl) rfl ?_
    refine O.p (Pu.assign rfl) rfl ?_
    refine O.p (Pu.assign rfl) rfl ?_
    refine O.nil ?_
    refine J.seq ?_
    refine J.region ?_
    refine O.p (Pu.assign rfl) rfl ?_
    refine O.nil ?_
    refine J.seq ?_
    refine J.seq ?_
    refine J.region ?_
    refine O.p (Pu.move rfl) rfl ?_
    refine O.p (Pu.geq rfl rfl) rfl ?_
    refine O.p (Pu.move rfl) rfl ?_
    refine by_bool (decide (1 ≤ k)) (fun h13 => ?_) (fun h13 => ?_)
    ·
      have p14 := of_decide_eq_true h13
      refine O.gq (t := 49) rfl rfl h13 rfl (Pu.qt (Pu.move rfl)) rfl ?_
      refine O.gq (t := 49) rfl rfl h13 rfl (Pu.qt (Pu.leq rfl rfl)) rfl ?_
      refine O.p (Pu.pickT rfl h13 rfl) rfl ?_
      refine O.nil ?_
      refine J.cond rfl (fun h15 => ?_) (fun h15 => ?_)
      ·
        have p16 := of_decide_eq_true h15
        refine J.region ?_
        refine O.l (Lo.call [] (by exact Tryd.call19) rfl r39_Words [] [0, 1, 2] (by decide) rfl [var g11 [.int .i64 (((Tc.parse s).1).kind), .int .i64 (((Tc.parse s).1).tick), .int .i64 (((Tc.parse s).1).s), .int .i64 (((Tc.parse s).1).id), .int .i64 (((Tc.parse s).1).code), .int .i64 (((Tc.parse s).1).a), .int .i64 (((Tc.parse s).1).b)] 23, var g9 [.int .i64 (((Tc.parse s).1).kind), .int .i64 (((Tc.parse s).1).tick), .int .i64 (((Tc.parse s).1).s), .int .i64 (((Tc.parse s).1).id), .int .i64 (((Tc.parse s).1).code), .int .i64 (((Tc.parse s).1).a), .int .i64 (((Tc.parse s).1).b)] 23, var g1 [.int .i64 e.kind, .int .i64 e.tick, .int .i64 e.s, .int .i64 e.id, .int .i64 e.code, .int .i64 e.a, .int .i64 e.b] 23] rfl RoOk.nil) rfl ?_
        rintro v17 _ ⟨_, rfl, rfl⟩
        refine O.p (Pu.move rfl) rfl ?_
        obtain ⟨e18, he18⟩ : ∃ x_, ([] :: Tc.kinds)[(k).toNat]? = some x_ := ⟨_, List.getElem?_eq_getElem (by first | omega | (have h_ : ([] :: Tc.kinds : List Wd.Bs).length = 16 := rfl; omega))⟩
        refine O.q (Qt.idxM Tryd.runUnderlying32 Tryd.sizeOf9 rfl (Src.row 0 rfl) rfl (by first | omega | (have h_ : ([] :: Tc.kinds : List Wd.Bs).length = 16 := rfl; omega)) (by first | omega | (have h_ : ([] :: Tc.kinds : List Wd.Bs).length = 16 := rfl; omega))) rfl ?_
        refine O.q (Qt.ld rfl (Cel.eltM (Src.row 0 rfl) he18) (o := (voff v17 + ((k).toNat) * 1)) (off := 0) (by omega) (Cut.one Tryd.isAgg9 rfl)) rfl ?_
        refine O.p (Pu.assign rfl) rfl ?_
        refine O.nil ?_
        refine J.seq ?_
        refine J.region ?_
        refine O.p (Pu.move rfl) rfl ?_
        refine O.p (Pu.move rfl) rfl ?_
        refine O.p (Pu.sEql rfl rfl) rfl ?_
        refine O.p (Pu.move rfl) rfl ?_
        refine O.gq (t := 60) rfl rfl (by simp) rfl (Pu.qt (Pu.move rfl)) rfl ?_
        refine O.gq (t := 60) rfl rfl (by simp) rfl (Pu.qt (Pu.move rfl)) rfl ?_
        refine O.gq (t := 60) rfl rfl (by simp) rfl (Pu.qt (Pu.eql rfl rfl)) rfl ?_
        refine O.p (Pu.pickT rfl (by simp) rfl) rfl ?_
        refine O.p (Pu.move rfl) rfl ?_
        refine O.gq (t := 65) rfl rfl (by simp) rfl (Qt.ld rfl (Cel.var 2 rfl) (o := 0) (off := 0) rfl (Cut.agg [.int .i64 (((Tc.parse s).1).kind), .int .i64 (((Tc.parse s).1).tick), .int .i64 (((Tc.parse s).1).s), .int .i64 (((Tc.parse s).1).id), .int .i64 (((Tc.parse s).1).code), .int .i64 (((Tc.parse s).1).a), .int .i64 (((Tc.parse s).1).b)] Tryd.isAgg23 Tryd.sizeOf23 rfl rfl)) rfl ?_
        refine O.gq (t := 65) rfl rfl (by simp) rfl (Qt.ld rfl (Cel.var 1 rfl) (o := 0) (off := 0) rfl (Cut.agg [.int .i64 (((Tc.parse s).1).kind), .int .i64 (((Tc.parse s).1).tick), .int .i64 (((Tc.parse s).1).s), .int .i64 (((Tc.parse s).1).id), .int .i64 (((Tc.parse s).1).code), .int .i64 (((Tc.parse s).1).a), .int .i64 (((Tc.parse s).1).b)] Tryd.isAgg23 Tryd.sizeOf23 rfl rfl)) rfl ?_
        refine O.gq (t := 65) rfl rfl (by simp) rfl (Pu.qt (Pu.eqlI [((Tc.parse s).1).kind, ((Tc.parse s).1).tick, ((Tc.parse s).1).s, ((Tc.parse s).1).id, ((Tc.parse s).1).code, ((Tc.parse s).1).a, ((Tc.parse s).1).b] [((Tc.parse s).1).kind, ((Tc.parse s).1).tick, ((Tc.parse s).1).s, ((Tc.parse s).1).id, ((Tc.parse s).1).code, ((Tc.parse s).1).a, ((Tc.parse s).1).b] Tryd.underlying23 Tryd.stoodInHeld23 Tryd.eqGuardType23 (fint23 Tryd.underlying23) rfl rfl rfl rfl)) rfl ?_
        refine O.p (Pu.pickT rfl (by simp) rfl) rfl ?_
        refine O.p (Pu.move rfl) rfl ?_
        refine O.gq (t := 70) rfl rfl (by simp) rfl (Pu.qt (Pu.move rfl)) rfl ?_
        refine O.gq (t := 70) rfl rfl (by simp) rfl (Pu.qt (Pu.move rfl)) rfl ?_
        refine O.gq (t := 70) rfl rfl (by simp) rfl (Pu.qt (Pu.eql rfl rfl)) rfl ?_
        refine O.p (Pu.pickT rfl (by simp) rfl) rfl ?_
        refine O.p (Pu.move rfl) rfl ?_
        refine O.gq (t := 75) rfl rfl (by simp) rfl (Pu.qt (Pu.move rfl)) rfl ?_
        refine O.gq (t := 75) rfl rfl (by simp) rfl (Pu.qt (Pu.move rfl)) rfl ?_
        refine O.gq (t := 75) rfl rfl (by simp) rfl (Pu.qt (Pu.sEql rfl rfl)) rfl ?_
        refine O.p (Pu.pickT rfl (by simp) rfl) rfl ?_
        refine O.p (Pu.move rfl) rfl ?_
        refine O.gq (t := 80) rfl rfl (by first | (rw [Tc.word_cons (by omega) (by omega) (by assumption), Word_f (by omega) (by omega) (by assumption)]; done) | (rw [Tc.word_cons (by omega) (by omega) (by assumption), Word_f (by omega) (by omega) (by assumption)]; rfl) | (rw [Tc.word_cons (by omega) (by omega) (by assumption)]; simp) | (rw [Tc.word_no (by omega)]; simp)) rfl (Pu.qt (Pu.move rfl)) rfl ?_
        refine O.gq (t := 80) rfl rfl (by first | (rw [Tc.word_cons (by omega) (by omega) (by assumption), Word_f (by omega) (by omega) (by assumption)]; done) | (rw [Tc.word_cons (by omega) (by omega) (by assumption), Word_f (by omega) (by omega) (by assumption)]; rfl) | (rw [Tc.word_cons (by omega) (by omega) (by assumption)]; simp) | (rw [Tc.word_no (by omega)]; simp)) rfl (Pu.qt (Pu.move rfl)) rfl ?_
        refine O.gq (t := 80) rfl rfl (by first | (rw [Tc.word_cons (by omega) (by omega) (by assumption), Word_f (by omega) (by omega) (by assumption)]; done) | (rw [Tc.word_cons (by omega) (by omega) (by assumption), Word_f (by omega) (by omega) (by assumption)]; rfl) | (rw [Tc.word_cons (by omega) (by omega) (by assumption)]; simp) | (rw [Tc.word_no (by omega)]; simp)) rfl (Pu.qt (Pu.sNeq rfl rfl)) rfl ?_
        refine O.gq (t := 80) rfl rfl (by first | (rw [Tc.word_cons (by omega) (by omega) (by assumption), Word_f (by omega) (by omega) (by assumption)]; done) | (rw [Tc.word_cons (by omega) (by omega) (by assumption), Word_f (by omega) (by omega) (by assumption)]; rfl) | (rw [Tc.word_cons (by omega) (by omega) (by assumption)]; simp) | (rw [Tc.word_no (by omega)]; simp)) rfl (Pu.qt (Pu.beql Tryd.underlying4 rfl rfl)) rfl ?_
        refine O.p (Pu.pickT rfl (by first | (rw [Tc.word_cons (by omega) (by omega) (by assumption), Word_f (by omega) (by omega) (by assumption)]; done) | (rw [Tc.word_cons (by omega) (by omega) (by assumption), Word_f (by omega) (by omega) (by assumption)]; rfl) | (rw [Tc.word_cons (by omega) (by omega) (by assumption)]; simp) | (rw [Tc.word_no (by omega)]; simp)) rfl) rfl ?_
        refine O.p (Pu.move rfl) rfl ?_
        refine O.gl (t := 86) rfl rfl (by first | (rw [Tc.word_cons (by omega) (by omega) (by assumption), Word_f (by omega) (by omega) (by assumption)]; done) | (rw [Tc.word_cons (by omega) (by omega) (by assumption), Word_f (by omega) (by omega) (by assumption)]; rfl) | (rw [Tc.word_cons (by omega) (by omega) (by assumption)]; simp) | (rw [Tc.word_no (by omega)]; simp)) rfl (Lo.call [] (by exact Tryd.call13) rfl law39_awake [] [0, 1, 2, 3] (by decide) rfl [row v17 9 1 (([] :: Tc.kinds).map encS), var g11 [.int .i64 (((Tc.parse s).1).kind), .int .i64 (((Tc.parse s).1).tick), .int .i64 (((Tc.parse s).1).s), .int .i64 (((Tc.parse s).1).id), .int .i64 (((Tc.parse s).1).code), .int .i64 (((Tc.parse s).1).a), .int .i64 (((Tc.parse s).1).b)] 23, var g9 [.int .i64 (((Tc.parse s).1).kind), .int .i64 (((Tc.parse s).1).tick), .int .i64 (((Tc.parse s).1).s), .int .i64 (((Tc.parse s).1).id), .int .i64 (((Tc.parse s).1).code), .int .i64 (((Tc.parse s).1).a), .int .i64 (((Tc.parse s).1).b)] 23, var g1 [.int .i64 e.kind, .int .i64 e.tick, .int .i64 e.s, .int .i64 e.id, .int .i64 e.code, .int .i64 e.a, .int .i64 e.b] 23] rfl (RoOk.ro 0 rfl [] rfl (RoOk.ro 1 rfl [] rfl RoOk.nil))) rfl ?_
        rintro _ _ ⟨_, ⟨rfl, rfl⟩, rfl⟩
        refine O.p (Pu.pickT rfl (by first | (rw [Tc.word_cons (by omega) (by omega) (by assumption), Word_f (by omega) (by omega) (by assumption)]; done) | (rw [Tc.word_cons (by omega) (by omega) (by assumption), Word_f (by omega) (by omega) (by assumption)]; rfl) | (rw [Tc.word_cons (by omega) (by omega) (by assumption)]; simp) | (rw [Tc.word_no (by omega)]; simp)) rfl) rfl ?_
        refine O.p (Pu.assign rfl) rfl ?_
        refine O.nil ?_
        exact J.ret (Fin.ret (rs := [.tmp 6]) rfl [_] ⟨rfl, trivial⟩ [] (by decide) [] rfl ⟨rfl, rfl⟩)
      ·
        have p20 := of_decide_eq_false h15
        refine J.skip ?_
        refine J.seq ?_
        refine J.region ?_
        refine O.p (Pu.move rfl) rfl ?_
        refine O.p (Pu.move rfl) rfl ?_
        refine O.p (Pu.sEql rfl rfl) rfl ?_
        refine O.p (Pu.move rfl) rfl ?_
        refine O.gq (t := 60) rfl rfl (by simp) rfl (Pu.qt (Pu.move rfl)) rfl ?_
        refine O.gq (t := 60) rfl rfl (by simp) rfl (Pu.qt (Pu.move rfl)) rfl ?_
        refine O.gq (t := 60) rfl rfl (by simp) rfl (Pu.qt (Pu.eql rfl rfl)) rfl ?_
        refine O.p (Pu.pickT rfl (by simp) rfl) rfl ?_
        refine O.p (Pu.move rfl) rfl ?_
        refine O.gq (t := 65) rfl rfl (by simp) rfl (Qt.ld rfl (Cel.var 1 rfl) (o := 0) (off := 0) rfl (Cut.agg [.int .i64 (((Tc.parse s).1).kind), .int .i64 (((Tc.parse s).1).tick), .int .i64 (((Tc.parse s).1).s), .int .i64 (((Tc.parse s).1).id), .int .i64 (((Tc.parse s).1).code), .int .i64 (((Tc.parse s).1).a), .int .i64 (((Tc.parse s).1).b)] Tryd.isAgg23 Tryd.sizeOf23 rfl rfl)) rfl ?_
        refine O.gq (t := 65) rfl rfl (by simp) rfl (Qt.ld rfl (Cel.var 0 rfl) (o := 0) (off := 0) rfl (Cut.agg [.int .i64 (((Tc.parse s).1).kind), .int .i64 (((Tc.parse s).1).tick), .int .i64 (((Tc.parse s).1).s), .int .i64 (((Tc.parse s).1).id), .int .i64 (((Tc.parse s).1).code), .int .i64 (((Tc.parse s).1).a), .int .i64 (((Tc.parse s).1).b)] Tryd.isAgg23 Tryd.sizeOf23 rfl rfl)) rfl ?_
        refine O.gq (t := 65) rfl rfl (by simp) rfl (Pu.qt (Pu.eqlI [((Tc.parse s).1).kind, ((Tc.parse s).1).tick, ((Tc.parse s).1).s, ((Tc.parse s).1).id, ((Tc.parse s).1).code, ((Tc.parse s).1).a, ((Tc.parse s).1).b] [((Tc.parse s).1).kind, ((Tc.parse s).1).tick, ((Tc.parse s).1).s, ((Tc.parse s).1).id, ((Tc.parse s).1).code, ((Tc.parse s).1).a, ((Tc.parse s).1).b] Tryd.underlying23 Tryd.stoodInHeld23 Tryd.eqGuardType23 (fint23 Tryd.underlying23) rfl rfl rfl rfl)) rfl ?_
        refine O.p (Pu.pickT rfl (by simp) rfl) rfl ?_
        refine O.p (Pu.move rfl) rfl ?_
        refine O.gq (t := 70) rfl rfl (by simp) rfl (Pu.qt (Pu.move rfl)) rfl ?_
        refine O.gq (t := 70) rfl rfl (by simp) rfl (Pu.qt (Pu.move rfl)) rfl ?_
        refine O.gq (t := 70) rfl rfl (by simp) rfl (Pu.qt (Pu.eql rfl rfl)) rfl ?_
        refine O.p (Pu.pickT rfl (by simp) rfl) rfl ?_
        refine O.p (Pu.move rfl) rfl ?_
        refine O.gq (t := 75) rfl rfl (by simp) rfl (Pu.qt (Pu.move rfl)) rfl ?_
        refine O.gq (t := 75) rfl rfl (by simp) rfl (Pu.qt (Pu.move rfl)) rfl ?_
        refine O.gq (t := 75) rfl rfl (by simp) rfl (Pu.qt (Pu.sEql rfl rfl)) rfl ?_
        refine O.p (Pu.pickT rfl (by simp) rfl) rfl ?_
        refine O.p (Pu.move rfl) rfl ?_
        refine O.gq (t := 80) rfl rfl (by first | (rw [Tc.word_cons (by omega) (by omega) (by assumption), Word_f (by omega) (by omega) (by assumption)]; done) | (rw [Tc.word_cons (by omega) (by omega) (by assumption), Word_f (by omega) (by omega) (by assumption)]; rfl) | (rw [Tc.word_cons (by omega) (by omega) (by assumption)]; simp) | (rw [Tc.word_no (by omega)]; simp)) rfl (Pu.qt (Pu.move rfl)) rfl ?_
        refine O.gq (t := 80) rfl rfl (by first | (rw [Tc.word_cons (by omega) (by omega) (by assumption), Word_f (by omega) (by omega) (by assumption)]; done) | (rw [Tc.word_cons (by omega) (by omega) (by assumption), Word_f (by omega) (by omega) (by assumption)]; rfl) | (rw [Tc.word_cons (by omega) (by omega) (by assumption)]; simp) | (rw [Tc.word_no (by omega)]; simp)) rfl (Pu.qt (Pu.move rfl)) rfl ?_
        refine O.gq (t := 80) rfl rfl (by first | (rw [Tc.word_cons (by omega) (by omega) (by assumption), Word_f (by omega) (by omega) (by assumption)]; done) | (rw [Tc.word_cons (by omega) (by omega) (by assumption), Word_f (by omega) (by omega) (by assumption)]; rfl) | (rw [Tc.word_cons (by omega) (by omega) (by assumption)]; simp) | (rw [Tc.word_no (by omega)]; simp)) rfl (Pu.qt (Pu.sNeq rfl rfl)) rfl ?_
        refine O.gq (t := 80) rfl rfl (by first | (rw [Tc.word_cons (by omega) (by omega) (by assumption), Word_f (by omega) (by omega) (by assumption)]; done) | (rw [Tc.word_cons (by omega) (by omega) (by assumption), Word_f (by omega) (by omega) (by assumption)]; rfl) | (rw [Tc.word_cons (by omega) (by omega) (by assumption)]; simp) | (rw [Tc.word_no (by omega)]; simp)) rfl (Pu.qt (Pu.beql Tryd.underlying4 rfl rfl)) rfl ?_
        refine O.p (Pu.pickT rfl (by first | (rw [Tc.word_cons (by omega) (by omega) (by assumption), Word_f (by omega) (by omega) (by assumption)]; done) | (rw [Tc.word_cons (by omega) (by omega) (by assumption), Word_f (by omega) (by omega) (by assumption)]; rfl) | (rw [Tc.word_cons (by omega) (by omega) (by assumption)]; simp) | (rw [Tc.word_no (by omega)]; simp)) rfl) rfl ?_
        refine O.p (Pu.move rfl) rfl ?_
        refine O.gl (t := 86) rfl rfl (by first | (rw [Tc.word_cons (by omega) (by omega) (by assumption), Word_f (by omega) (by omega) (by assumption)]; done) | (rw [Tc.word_cons (by omega) (by omega) (by assumption), Word_f (by omega) (by omega) (by assumption)]; rfl) | (rw [Tc.word_cons (by omega) (by omega) (by assumption)]; simp) | (rw [Tc.word_no (by omega)]; simp)) rfl (Lo.call [] (by exact Tryd.call13) rfl law39_awake [] [0, 1, 2] (by decide) rfl [var g11 [.int .i64 (((Tc.parse s).1).kind), .int .i64 (((Tc.parse s).1).tick), .int .i64 (((Tc.parse s).1).s), .int .i64 (((Tc.parse s).1).id), .int .i64 (((Tc.parse s).1).code), .int .i64 (((Tc.parse s).1).a), .int .i64 (((Tc.parse s).1).b)] 23, var g9 [.int .i64 (((Tc.parse s).1).kind), .int .i64 (((Tc.parse s).1).tick), .int .i64 (((Tc.parse s).1).s), .int .i64 (((Tc.parse s).1).id), .int .i64 (((Tc.parse s).1).code), .int .i64 (((Tc.parse s).1).a), .int .i64 (((Tc.parse s).1).b)] 23, var g1 [.int .i64 e.kind, .int .i64 e.tick, .int .i64 e.s, .int .i64 e.id, .int .i64 e.code, .int .i64 e.a, .int .i64 e.b] 23] rfl (RoOk.ro 0 rfl [] rfl (RoOk.ro 1 rfl [] rfl RoOk.nil))) rfl ?_
        rintro _ _ ⟨_, ⟨rfl, rfl⟩, rfl⟩
        refine O.p (Pu.pickT rfl (by first | (rw [Tc.word_cons (by omega) (by omega) (by assumption), Word_f (by omega) (by omega) (by assumption)]; done) | (rw [Tc.word_cons (by omega) (by omega) (by assumption), Word_f (by omega) (by omega) (by assumption)]; rfl) | (rw [Tc.word_cons (by omega) (by omega) (by assumption)]; simp) | (rw [Tc.word_no (by omega)]; simp)) rfl) rfl ?_
        refine O.p (Pu.assign rfl) rfl ?_
        refine O.nil ?_
        exact J.ret (Fin.ret (rs := [.tmp 6]) rfl [_] ⟨rfl, trivial⟩ [] (by decide) [] rfl ⟨rfl, rfl⟩)
    ·
      have p22 := of_decide_eq_false h13
      refine O.gskip (t := 49) rfl rfl (no_bool (by rw [h13]; decide)) rfl rfl ?_
      refine O.gskip (t := 49) rfl rfl (no_bool (by rw [h13]; decide)) rfl rfl ?_
      refine O.p (Pu.pickF rfl h13 rfl) rfl ?_
      refine O.nil ?_
      refine J.condF rfl rfl ?_
      refine J.skip ?_
      refine J.seq ?_
      refine J.region ?_
      refine O.p (Pu.move rfl) rfl ?_
      refine O.p (Pu.move rfl) rfl ?_
      refine O.p (Pu.sEql rfl rfl) rfl ?_
      refine O.p (Pu.move rfl) rfl ?_
      refine O.gq (t := 60) rfl rfl (by simp) rfl (Pu.qt (Pu.move rfl)) rfl ?_
      refine O.gq (t := 60) rfl rfl (by simp) rfl (Pu.qt (Pu.move rfl)) rfl ?_
      refine O.gq (t := 60) rfl rfl (by simp) rfl (Pu.qt (Pu.eql rfl rfl)) rfl ?_
      refine O.p (Pu.pickT rfl (by simp) rfl) rfl ?_
      refine O.p (Pu.move rfl) rfl ?_
      refine O.gq (t := 65) rfl rfl (by simp) rfl (Qt.ld rfl (Cel.var 1 rfl) (o := 0) (off := 0) rfl (Cut.agg [.int .i64 (((Tc.parse s).1).kind), .int .i64 (((Tc.parse s).1).tick), .int .i64 (((Tc.parse s).1).s), .int .i64 (((Tc.parse s).1).id), .int .i64 (((Tc.parse s).1).code), .int .i64 (((Tc.parse s).1).a), .int .i64 (((Tc.parse s).1).b)] Tryd.isAgg23 Tryd.sizeOf23 rfl rfl)) rfl ?_
      refine O.gq (t := 65) rfl rfl (by simp) rfl (Qt.ld rfl (Cel.var 0 rfl) (o := 0) (off := 0) rfl (Cut.agg [.int .i64 (((Tc.parse s).1).kind), .int .i64 (((Tc.parse s).1).tick), .int .i64 (((Tc.parse s).1).s), .int .i64 (((Tc.parse s).1).id), .int .i64 (((Tc.parse s).1).code), .int .i64 (((Tc.parse s).1).a), .int .i64 (((Tc.parse s).1).b)] Tryd.isAgg23 Tryd.sizeOf23 rfl rfl)) rfl ?_
      refine O.gq (t := 65) rfl rfl (by simp) rfl (Pu.qt (Pu.eqlI [((Tc.parse s).1).kind, ((Tc.parse s).1).tick, ((Tc.parse s).1).s, ((Tc.parse s).1).id, ((Tc.parse s).1).code, ((Tc.parse s).1).a, ((Tc.parse s).1).b] [((Tc.parse s).1).kind, ((Tc.parse s).1).tick, ((Tc.parse s).1).s, ((Tc.parse s).1).id, ((Tc.parse s).1).code, ((Tc.parse s).1).a, ((Tc.parse s).1).b] Tryd.underlying23 Tryd.stoodInHeld23 Tryd.eqGuardType23 (fint23 Tryd.underlying23) rfl rfl rfl rfl)) rfl ?_
      refine O.p (Pu.pickT rfl (by simp) rfl) rfl ?_
      refine O.p (Pu.move rfl) rfl ?_
      refine O.gq (t := 70) rfl rfl (by simp) rfl (Pu.qt (Pu.move rfl)) rfl ?_
      refine O.gq (t := 70) rfl rfl (by simp) rfl (Pu.qt (Pu.move rfl)) rfl ?_
      refine O.gq (t := 70) rfl rfl (by simp) rfl (Pu.qt (Pu.eql rfl rfl)) rfl ?_
      refine O.p (Pu.pickT rfl (by simp) rfl) rfl ?_
      refine O.p (Pu.move rfl) rfl ?_
      refine O.gq (t := 75) rfl rfl (by simp) rfl (Pu.qt (Pu.move rfl)) rfl ?_
      refine O.gq (t := 75) rfl rfl (by simp) rfl (Pu.qt (Pu.move rfl)) rfl ?_
      refine O.gq (t := 75) rfl rfl (by simp) rfl (Pu.qt (Pu.sEql rfl rfl)) rfl ?_
      refine O.p (Pu.pickT rfl (by simp) rfl) rfl ?_
      refine O.p (Pu.move rfl) rfl ?_
      refine O.gq (t := 80) rfl rfl (by first | (rw [Tc.word_cons (by omega) (by omega) (by assumption), Word_f (by omega) (by omega) (by assumption)]; done) | (rw [Tc.word_cons (by omega) (by omega) (by assumption), Word_f (by omega) (by omega) (by assumption)]; rfl) | (rw [Tc.word_cons (by omega) (by omega) (by assumption)]; simp) | (rw [Tc.word_no (by omega)]; simp)) rfl (Pu.qt (Pu.move rfl)) rfl ?_
      refine O.gq (t := 80) rfl rfl (by first | (rw [Tc.word_cons (by omega) (by omega) (by assumption), Word_f (by omega) (by omega) (by assumption)]; done) | (rw [Tc.word_cons (by omega) (by omega) (by assumption), Word_f (by omega) (by omega) (by assumption)]; rfl) | (rw [Tc.word_cons (by omega) (by omega) (by assumption)]; simp) | (rw [Tc.word_no (by omega)]; simp)) rfl (Pu.qt (Pu.move rfl)) rfl ?_
      refine O.gq (t := 80) rfl rfl (by first | (rw [Tc.word_cons (by omega) (by omega) (by assumption), Word_f (by omega) (by omega) (by assumption)]; done) | (rw [Tc.word_cons (by omega) (by omega) (by assumption), Word_f (by omega) (by omega) (by assumption)]; rfl) | (rw [Tc.word_cons (by omega) (by omega) (by assumption)]; simp) | (rw [Tc.word_no (by omega)]; simp)) rfl (Pu.qt (Pu.sNeq rfl rfl)) rfl ?_
      refine O.gq (t := 80) rfl rfl (by first | (rw [Tc.word_cons (by omega) (by omega) (by assumption), Word_f (by omega) (by omega) (by assumption)]; done) | (rw [Tc.word_cons (by omega) (by omega) (by assumption), Word_f (by omega) (by omega) (by assumption)]; rfl) | (rw [Tc.word_cons (by omega) (by omega) (by assumption)]; simp) | (rw [Tc.word_no (by omega)]; simp)) rfl (Pu.qt (Pu.beql Tryd.underlying4 rfl rfl)) rfl ?_
      refine O.p (Pu.pickT rfl (by first | (rw [Tc.word_cons (by omega) (by omega) (by assumption), Word_f (by omega) (by omega) (by assumption)]; done) | (rw [Tc.word_cons (by omega) (by omega) (by assumption), Word_f (by omega) (by omega) (by assumption)]; rfl) | (rw [Tc.word_cons (by omega) (by omega) (by assumption)]; simp) | (rw [Tc.word_no (by omega)]; simp)) rfl) rfl ?_
      refine O.p (Pu.move rfl) rfl ?_
      refine O.gl (t := 86) rfl rfl (by first | (rw [Tc.word_cons (by omega) (by omega) (by assumption), Word_f (by omega) (by omega) (by assumption)]; done) | (rw [Tc.word_cons (by omega) (by omega) (by assumption), Word_f (by omega) (by omega) (by assumption)]; rfl) | (rw [Tc.word_cons (by omega) (by omega) (by assumption)]; simp) | (rw [Tc.word_no (by omega)]; simp)) rfl (Lo.call [] (by exact Tryd.call13) rfl law39_awake [] [0, 1, 2] (by decide) rfl [var g11 [.int .i64 (((Tc.parse s).1).kind), .int .i64 (((Tc.parse s).1).tick), .int .i64 (((Tc.parse s).1).s), .int .i64 (((Tc.parse s).1).id), .int .i64 (((Tc.parse s).1).code), .int .i64 (((Tc.parse s).1).a), .int .i64 (((Tc.parse s).1).b)] 23, var g9 [.int .i64 (((Tc.parse s).1).kind), .int .i64 (((Tc.parse s).1).tick), .int .i64 (((Tc.parse s).1).s), .int .i64 (((Tc.parse s).1).id), .int .i64 (((Tc.parse s).1).code), .int .i64 (((Tc.parse s).1).a), .int .i64 (((Tc.parse s).1).b)] 23, var g1 [.int .i64 e.kind, .int .i64 e.tick, .int .i64 e.s, .int .i64 e.id, .int .i64 e.code, .int .i64 e.a, .int .i64 e.b] 23] rfl (RoOk.ro 0 rfl [] rfl (RoOk.ro 1 rfl [] rfl RoOk.nil))) rfl ?_
      rintro _ _ ⟨_, ⟨rfl, rfl⟩, rfl⟩
      refine O.p (Pu.pickT rfl (by first | (rw [Tc.word_cons (by omega) (by omega) (by assumption), Word_f (by omega) (by omega) (by assumption)]; done) | (rw [Tc.word_cons (by omega) (by omega) (by assumption), Word_f (by omega) (by omega) (by assumption)]; rfl) | (rw [Tc.word_cons (by omega) (by omega) (by assumption)]; simp) | (rw [Tc.word_no (by omega)]; simp)) rfl) rfl ?_
      refine O.p (Pu.assign rfl) rfl ?_
      refine O.nil ?_
      exact J.ret (Fin.ret (rs := [.tmp 6]) rfl [_] ⟨rfl, trivial⟩ [] (by decide) [] rfl ⟨rfl, rfl⟩)

set_option maxRecDepth 100000 in
set_option maxHeartbeats 1000000 in
theorem law39_traceTexts (lv : Value) (l : List Ev) (s : List UInt8) (n : Int) (hI : Tc.EvsI l) : Tri Tryd.prog 5 #[lv, str s, .int .i64 n] [libW, var 0 (Tc.kinds.map vS) 111, rd lv 7 (l.map Ev.cells)] [] (fun v L' => v = .bool true ∧ L' = []) := by
  refine Tri.enter (args := [lv, str s, .int .i64 n]) (body := _) 99 Tryd.func5 rfl Tryd.ntmps5 rfl ?_
  intro w0
  refine J.seq ?_
  refine J.region ?_
  refine O.p (Pu.assign rfl) rfl ?_
  refine O.nil ?_
  refine J.seq ?_
  refine J.seq ?_
  refine J.region ?_
  refine O.p (Pu.move rfl) rfl ?_
  refine O.q (Qt.lenM Tryd.runUnderlying35 rfl (Src.ro 2 rfl)) rfl ?_
  refine O.p (Pu.gtr rfl rfl) rfl ?_
  refine O.p (Pu.move rfl) rfl ?_
  refine by_bool (decide (60 < (l.length : Int))) (fun h1 => ?_) (fun h1 => ?_)
  ·
    have p2 := of_decide_eq_true h1
    refine O.gskip (t := 20) rfl rfl (no_bool (by rw [h1]; decide)) rfl rfl ?_
    refine O.gskip (t := 20) rfl rfl (no_bool (by rw [h1]; decide)) rfl rfl ?_
    refine O.gskip (t := 20) rfl rfl (no_bool (by rw [h1]; decide)) rfl rfl ?_
    refine O.p (Pu.pickT rfl h1 rfl) rfl ?_
    refine O.nil ?_
    refine J.condT rfl rfl ?_
    refine J.seq ?_
    refine J.region ?_
    refine O.l (Lo.call [] (by exact Tryd.call13) rfl law39_awake [] [] (by decide) rfl [] rfl (RoOk.ro 0 rfl [] rfl (RoOk.ro 1 rfl [] rfl RoOk.nil))) rfl ?_
    rintro _ _ ⟨_, ⟨rfl, rfl⟩, rfl⟩
    refine O.p (Pu.assign rfl) rfl ?_
    refine O.nil ?_
    exact J.ret (Fin.ret (rs := [.tmp 6]) rfl [_] ⟨rfl, trivial⟩ [] (by decide) [] rfl ⟨rfl, rfl⟩)
  ·
    have p4 := of_decide_eq_false h1
    refine O.gq (t := 20) rfl rfl h1 rfl (Pu.qt (Pu.move rfl)) rfl ?_
    refine O.gq (t := 20) rfl rfl h1 rfl (Pu.qt (Pu.sLen Tryd.runUnderlying9 rfl)) rfl ?_
    refine O.gq (t := 20) rfl rfl h1 rfl (Pu.qt (Pu.gtr rfl rfl)) rfl ?_
    refine O.p (Pu.pickF rfl h1 rfl) rfl ?_
    refine O.nil ?_
    refine J.cond rfl (fun h5 => ?_) (fun h5 => ?_)
    ·
      have p6 := of_decide_eq_true h5
      refine J.seq ?_
      refine J.region ?_
      refine O.l (Lo.call [] (by exact Tryd.call13) rfl law39_awake [] [] (by decide) rfl [] rfl (RoOk.ro 0 rfl [] rfl (RoOk.ro 1 rfl [] rfl RoOk.nil))) rfl ?_
      rintro _ _ ⟨_, ⟨rfl, rfl⟩, rfl⟩
      refine O.p (Pu.assign rfl) rfl ?_
      refine O.nil ?_
      exact J.ret (Fin.ret (rs := [.tmp 6]) rfl [_] ⟨rfl, trivial⟩ [] (by decide) [] rfl ⟨rfl, rfl⟩)
    ·
      have p8 := of_decide_eq_false h5
      refine J.skip ?_
      refine J.seq ?_
      refine J.region ?_
      refine O.p (Pu.move rfl) rfl ?_
      refine O.l (Lo.call [lv] (by exact Tryd.call20) rfl (tc_Text lv l (by first | omega | (rw [Tc.cnt_len]; decide)) (by assumption)) [] [] (by decide) rfl [] rfl (RoOk.ro 0 rfl [] rfl (RoOk.ro 1 rfl [] rfl (RoOk.ro 2 rfl [] rfl RoOk.nil)))) rfl ?_
      rintro _ _ ⟨_, ⟨rfl, rfl⟩, rfl⟩
      refine O.p (Pu.move rfl) rfl ?_
      refine O.p (Pu.extract rfl rfl) rfl ?_
      refine O.p (Pu.extract rfl rfl) rfl ?_
      refine O.p (Pu.assign rfl) rfl ?_
      refine O.p (Pu.assign rfl) rfl ?_
      refine O.nil ?_
      refine J.seq ?_
      refine J.region ?_
      refine O.p (Pu.move rfl) rfl ?_
      refine O.l (Lo.call [lv] (by exact Tryd.call26) rfl (r39_Text lv l (by first | omega | (rw [Tc.cnt_len]; decide)) (by assumption)) [] [] (by decide) rfl [] rfl (RoOk.ro 2 rfl [] rfl RoOk.nil)) rfl ?_
      rintro _ _ ⟨_, ⟨rfl, rfl⟩, rfl⟩
      refine O.p (Pu.move rfl) rfl ?_
      refine O.p (Pu.extract rfl rfl) rfl ?_
      refine O.p (Pu.extract rfl rfl) rfl ?_
      refine O.p (Pu.assign rfl) rfl ?_
      refine O.p (Pu.assign rfl) rfl ?_
      refine O.nil ?_
      refine J.seq ?_
      refine J.region ?_
      refine O.p (Pu.move rfl) rfl ?_
      refine O.l (Lo.call [str s] (by exact Tryd.call21) rfl (tc_ParseAll s (by omega)) [] [] (by decide) rfl [] rfl (RoOk.ro 0 rfl [] rfl (RoOk.ro 1 rfl [] rfl RoOk.nil))) rfl ?_
      rintro _ _ ⟨_, ⟨V11, rfl, rfl⟩, rfl⟩
      refine O.p (Pu.move rfl) rfl ?_
      refine O.p (Pu.extract rfl rfl) rfl ?_
      refine O.p (Pu.extract rfl rfl) rfl ?_
      refine O.p (Pu.extract rfl rfl) rfl ?_
      refine O.p (Pu.assign rfl) rfl ?_
      refine O.p (Pu.assign rfl) rfl ?_
      refine O.p (Pu.assign rfl) rfl ?_
      refine O.nil ?_
      refine J.seq ?_
      refine J.region ?_
      refine O.p (Pu.move rfl) rfl ?_
      refine O.l (Lo.call [str s] (by exact Tryd.call27) rfl (r39_ParseAll s (by omega)) [] [0] (by decide) rfl [row V11 23 7 (((Tc.parseAll s).1).map Ev.cells)] rfl RoOk.nil) rfl ?_
      rintro _ _ ⟨_, ⟨V13, rfl, rfl⟩, rfl⟩
      refine O.p (Pu.move rfl) rfl ?_
      refine O.p (Pu.extract rfl rfl) rfl ?_
      refine O.p (Pu.extract rfl rfl) rfl ?_
      refine O.p (Pu.extract rfl rfl) rfl ?_
      refine O.p (Pu.assign rfl) rfl ?_
      refine O.p (Pu.assign rfl) rfl ?_
      refine O.p (Pu.assign rfl) rfl ?_
      refine O.nil ?_
      refine J.seq ?_
      refine J.region ?_
      refine O.p (Pu.move rfl) rfl ?_
      refine O.p (Pu.move rfl) rfl ?_
      refine O.p (Pu.sEql rfl rfl) rfl ?_
      refine O.p (Pu.move rfl) rfl ?_
      refine O.gq (t := 51) rfl rfl (by simp) rfl (Pu.qt (Pu.move rfl)) rfl ?_
      refine O.gq (t := 51) rfl rfl (by simp) rfl (Pu.qt (Pu.move rfl)) rfl ?_
      refine O.gq (t := 51) rfl rfl (by simp) rfl (Pu.qt (Pu.eql rfl rfl)) rfl ?_
      refine O.p (Pu.pickT rfl (by simp) rfl) rfl ?_
      refine O.p (Pu.move rfl) rfl ?_
      refine O.gq (t := 56) rfl rfl (by simp) rfl (Pu.qt (Pu.move rfl)) rfl ?_
      refine O.gq (t := 56) rfl rfl (by simp) rfl (Pu.qt (Pu.move rfl)) rfl ?_
      refine O.gl (t := 56) rfl rfl (by simp) rfl (Lo.call [V11, V13] (by exact Tryd.call22) rfl (r35_Same V11 V13 ((Tc.parseAll s).1) (by first | omega | (have h_ := Tc.pa_len s; omega) | (have h_ : (Mono.of n l).length ≤ l.length := List.length_filter_le _ l; omega) | (have h_ : (l.filter (Tc.about n)).length ≤ l.length := List.length_filter_le _ l; omega))) [] [0, 1] (by decide) rfl [row V13 23 7 (((Tc.parseAll s).1).map Ev.cells), row V11 23 7 (((Tc.parseAll s).1).map Ev.cells)] rfl (RoOk.of 1 rfl row_rd [] (by decide) rfl (RoOk.of 0 rfl row_rd [] (by decide) rfl RoOk.nil))) rfl ?_
      rintro _ _ ⟨_, ⟨rfl, rfl⟩, rfl⟩
      refine O.p (Pu.pickT rfl (by simp) rfl) rfl ?_
      refine O.p (Pu.move rfl) rfl ?_
      refine O.gq (t := 61) rfl rfl rfl rfl (Pu.qt (Pu.move rfl)) rfl ?_
      refine O.gq (t := 61) rfl rfl rfl rfl (Pu.qt (Pu.move rfl)) rfl ?_
      refine O.gq (t := 61) rfl rfl rfl rfl (Pu.qt (Pu.eql rfl rfl)) rfl ?_
      refine O.p (Pu.pickT rfl rfl rfl) rfl ?_
      refine O.p (Pu.move rfl) rfl ?_
      refine O.gq (t := 66) rfl rfl (by simp) rfl (Pu.qt (Pu.move rfl)) rfl ?_
      refine O.gq (t := 66) rfl rfl (by simp) rfl (Pu.qt (Pu.move rfl)) rfl ?_
      refine O.gq (t := 66) rfl rfl (by simp) rfl (Pu.qt (Pu.eql rfl rfl)) rfl ?_
      refine O.p (Pu.pickT rfl (by simp) rfl) rfl ?_
      refine O.p (Pu.move rfl) rfl ?_
      refine O.gq (t := 71) rfl rfl (by simp) rfl (Pu.qt (Pu.move rfl)) rfl ?_
      refine O.gq (t := 71) rfl rfl (by simp) rfl (Pu.qt (Pu.move rfl)) rfl ?_
      refine O.gl (t := 71) rfl rfl (by simp) rfl (Lo.call [.int .i64 n, lv] (by exact Tryd.call24) rfl (trace_of n lv l (by first | omega | (rw [Tc.cnt_len]; decide))) [] [0, 1] (by decide) rfl [row V13 23 7 (((Tc.parseAll s).1).map Ev.cells), row V11 23 7 (((Tc.parseAll s).1).map Ev.cells)] rfl (RoOk.ro 2 rfl [] rfl RoOk.nil)) rfl ?_
      rintro v16 _ ⟨_, rfl, rfl⟩
      refine O.gq (t := 71) rfl rfl (by simp) rfl (Pu.qt (Pu.move rfl)) rfl ?_
      refine O.gq (t := 71) rfl rfl (by simp) rfl (Pu.qt (Pu.move rfl)) rfl ?_
      refine O.gl (t := 71) rfl rfl (by simp) rfl (Lo.call [.int .i64 n, lv] (by exact Tryd.call28) rfl (r39_Of n lv l (by first | omega | (rw [Tc.cnt_len]; decide))) [] [0, 1, 2] (by decide) rfl [row v16 23 7 ((Mono.of n l).map Ev.cells), row V13 23 7 (((Tc.parseAll s).1).map Ev.cells), row V11 23 7 (((Tc.parseAll s).1).map Ev.cells)] rfl (RoOk.ro 2 rfl [] rfl RoOk.nil)) rfl ?_
      rintro v17 _ ⟨_, rfl, rfl⟩
      refine O.gl (t := 71) rfl rfl (by simp) rfl (Lo.call [v16, v17] (by exact Tryd.call22) rfl (r35_Same v16 v17 (Mono.of n l) (by first | omega | (have h_ := Tc.pa_len s; omega) | (have h_ : (Mono.of n l).length ≤ l.length := List.length_filter_le _ l; omega) | (have h_ : (l.filter (Tc.about n)).length ≤ l.length := List.length_filter_le _ l; omega))) [] [0, 1, 2, 3] (by decide) rfl [row v17 23 7 ((Mono.of n l).map Ev.cells), row v16 23 7 ((Mono.of n l).map Ev.cells), row V13 23 7 (((Tc.parseAll s).1).map Ev.cells), row V11 23 7 (((Tc.parseAll s).1).map Ev.cells)] rfl (RoOk.of 1 rfl row_rd [] (by decide) rfl (RoOk.of 0 rfl row_rd [] (by decide) rfl RoOk.nil))) rfl ?_
      rintro _ _ ⟨_, ⟨rfl, rfl⟩, rfl⟩
      refine O.p (Pu.pickT rfl (by simp) rfl) rfl ?_
      refine O.p (Pu.move rfl) rfl ?_
      refine O.gq (t := 80) rfl rfl rfl rfl (Pu.qt (Pu.move rfl)) rfl ?_
      refine O.gq (t := 80) rfl rfl rfl rfl (Pu.qt (Pu.move rfl)) rfl ?_
      refine O.gl (t := 80) rfl rfl rfl rfl (Lo.call [.int .i64 n, lv] (by exact Tryd.call29) rfl (trace_about n lv l (by first | omega | (rw [Tc.cnt_len]; decide))) [] [0, 1, 2, 3] (by decide) rfl [row v17 23 7 ((Mono.of n l).map Ev.cells), row v16 23 7 ((Mono.of n l).map Ev.cells), row V13 23 7 (((Tc.parseAll s).1).map Ev.cells), row V11 23 7 (((Tc.parseAll s).1).map Ev.cells)] rfl (RoOk.ro 2 rfl [] rfl RoOk.nil)) rfl ?_
      rintro v19 _ ⟨_, rfl, rfl⟩
      refine O.gq (t := 80) rfl rfl rfl rfl (Pu.qt (Pu.move rfl)) rfl ?_
      refine O.gq (t := 80) rfl rfl rfl rfl (Pu.qt (Pu.move rfl)) rfl ?_
      refine O.gl (t := 80) rfl rfl rfl rfl (Lo.call [.int .i64 n, lv] (by exact Tryd.call30) rfl (r39_About n lv l (by first | omega | (rw [Tc.cnt_len]; decide))) [] [0, 1, 2, 3, 4] (by decide) rfl [row v19 23 7 ((l.filter (Tc.about n)).map Ev.cells), row v17 23 7 ((Mono.of n l).map Ev.cells), row v16 23 7 ((Mono.of n l).map Ev.cells), row V13 23 7 (((Tc.parseAll s).1).map Ev.cells), row V11 23 7 (((Tc.parseAll s).1).map Ev.cells)] rfl (RoOk.ro 2 rfl [] rfl RoOk.nil)) rfl ?_
      rintro v20 _ ⟨_, rfl, rfl⟩
      refine O.gl (t := 80) rfl rfl rfl rfl (Lo.call [v19, v20] (by exact Tryd.call22) rfl (r35_Same v19 v20 (l.filter (Tc.about n)) (by first | omega | (have h_ := Tc.pa_len s; omega) | (have h_ : (Mono.of n l).length ≤ l.length := List.length_filter_le _ l; omega) | (have h_ : (l.filter (Tc.about n)).length ≤ l.length := List.length_filter_le _ l; omega))) [] [0, 1, 2, 3, 4, 5] (by decide) rfl [row v20 23 7 ((l.filter (Tc.about n)).map Ev.cells), row v19 23 7 ((l.filter (Tc.about n)).map Ev.cells), row v17 23 7 ((Mono.of n l).map Ev.cells), row v16 23 7 ((Mono.of n l).map Ev.cells), row V13 23 7 (((Tc.parseAll s).1).map Ev.cells), row V11 23 7 (((Tc.parseAll s).1).map Ev.cells)] rfl (RoOk.of 1 rfl row_rd [] (by decide) rfl (RoOk.of 0 rfl row_rd [] (by decide) rfl RoOk.nil))) rfl ?_
      rintro _ _ ⟨_, ⟨rfl, rfl⟩, rfl⟩
      refine O.p (Pu.pickT rfl rfl rfl) rfl ?_
      refine O.p (Pu.move rfl) rfl ?_
      refine O.gq (t := 89) rfl rfl rfl rfl (Pu.qt (Pu.move rfl)) rfl ?_
      refine O.gl (t := 89) rfl rfl rfl rfl (Lo.call [lv] (by exact Tryd.call23) rfl (trace_Count lv l (by first | omega | (rw [Tc.cnt_len]; decide))) [] [0, 1, 2, 3, 4, 5] (by decide) rfl [row v20 23 7 ((l.filter (Tc.about n)).map Ev.cells), row v19 23 7 ((l.filter (Tc.about n)).map Ev.cells), row v17 23 7 ((Mono.of n l).map Ev.cells), row v16 23 7 ((Mono.of n l).map Ev.cells), row V13 23 7 (((Tc.parseAll s).1).map Ev.cells), row V11 23 7 (((Tc.parseAll s).1).map Ev.cells)] rfl (RoOk.ro 2 rfl [] rfl RoOk.nil)) rfl ?_
      rintro v22 _ ⟨_, rfl, rfl⟩
      refine O.gq (t := 89) rfl rfl rfl rfl (Pu.qt (Pu.move rfl)) rfl ?_
      refine O.gl (t := 89) rfl rfl rfl rfl (Lo.call [lv] (by exact Tryd.call31) rfl (r39_Count lv l (by first | omega | (rw [Tc.cnt_len]; decide))) [] [0, 1, 2, 3, 4, 5, 6] (by decide) rfl [row v22 3 1 ((Tc.cnt l).map encZ), row v20 23 7 ((l.filter (Tc.about n)).map Ev.cells), row v19 23 7 ((l.filter (Tc.about n)).map Ev.cells), row v17 23 7 ((Mono.of n l).map Ev.cells), row v16 23 7 ((Mono.of n l).map Ev.cells), row V13 23 7 (((Tc.parseAll s).1).map Ev.cells), row V11 23 7 (((Tc.parseAll s).1).map Ev.cells)] rfl (RoOk.ro 2 rfl [] rfl RoOk.nil)) rfl ?_
      rintro v23 _ ⟨_, rfl, rfl⟩
      refine O.gl (t := 89) rfl rfl rfl rfl (Lo.call [v22, v23] (by exact Tryd.call25) rfl (r01_Same v22 v23 (Tc.cnt l) (by first | omega | (rw [Tc.cnt_len]; decide))) [] [0, 1, 2, 3, 4, 5, 6, 7] (by decide) rfl [row v23 3 1 ((Tc.cnt l).map encZ), row v22 3 1 ((Tc.cnt l).map encZ), row v20 23 7 ((l.filter (Tc.about n)).map Ev.cells), row v19 23 7 ((l.filter (Tc.about n)).map Ev.cells), row v17 23 7 ((Mono.of n l).map Ev.cells), row v16 23 7 ((Mono.of n l).map Ev.cells), row V13 23 7 (((Tc.parseAll s).1).map Ev.cells), row V11 23 7 (((Tc.parseAll s).1).map Ev.cells)] rfl (RoOk.of 1 rfl row_rd [] (by decide) rfl (RoOk.of 0 rfl row_rd [] (by decide) rfl RoOk.nil))) rfl ?_
      rintro _ _ ⟨_, ⟨rfl, rfl⟩, rfl⟩
      refine O.p (Pu.pickT rfl rfl rfl) rfl ?_
      refine O.p (Pu.move rfl) rfl ?_
      refine O.gl (t := 96) rfl rfl rfl rfl (Lo.call [] (by exact Tryd.call13) rfl law39_awake [] [0, 1, 2, 3, 4, 5, 6, 7] (by decide) rfl [row v23 3 1 ((Tc.cnt l).map encZ), row v22 3 1 ((Tc.cnt l).map encZ), row v20 23 7 ((l.filter (Tc.about n)).map Ev.cells), row v19 23 7 ((l.filter (Tc.about n)).map Ev.cells), row v17 23 7 ((Mono.of n l).map Ev.cells), row v16 23 7 ((Mono.of n l).map Ev.cells), row V13 23 7 (((Tc.parseAll s).1).map Ev.cells), row V11 23 7 (((Tc.parseAll s).1).map Ev.cells)] rfl (RoOk.ro 0 rfl [] rfl (RoOk.ro 1 rfl [] rfl RoOk.nil))) rfl ?_
      rintro _ _ ⟨_, ⟨rfl, rfl⟩, rfl⟩
      refine O.p (Pu.pickT rfl rfl rfl) rfl ?_
      refine O.p (Pu.assign rfl) rfl ?_
      refine O.nil ?_
      exact J.ret (Fin.ret (rs := [.tmp 6]) rfl [_] ⟨rfl, trivial⟩ [] (by decide) [] rfl ⟨rfl, rfl⟩)

theorem tc_ParseAll_eq (s : List UInt8) (l : List Ev) (hs : s.length ≤ 70000) (h : Tc.parseAll s = (l, 0, 0)) : Tri Tryd.prog 21 #[str s] [libW, var 0 (Tc.kinds.map vS) 111] [] (fun v L' => ∃ V', v = .tuple #[V', .int .i64 0, .int .i64 0] ∧ L' = [row V' 23 7 (l.map Ev.cells)]) := by
  have := tc_ParseAll s hs
  rw [h] at this
  exact this
theorem r01_Same2 (av bv : Value) (l m : List Int) (hl : l.length ≤ 100000) (h : m = l) : Tri Tryd.prog 25 #[av, bv] [rd av 1 (l.map encZ), rd bv 1 (m.map encZ)] [] (fun v L' => v = .bool true ∧ L' = []) := by
  subst h
  exact r01_Same av bv m hl

set_option maxRecDepth 100000 in
set_option maxHeartbeats 1000000 in
theorem law39_traceBack (lv : Value) (l : List Ev) (hI : Tc.EvsI l) : Tri Tryd.prog 4 #[lv] [libW, var 0 (Tc.kinds.map vS) 111, rd lv 7 (l.map Ev.cells)] [] (fun v L' => v = .bool true ∧ L' = []) := by
  refine Tri.enter (args := [lv]) (body := _) 116 Tryd.func4 rfl Tryd.ntmps4 rfl ?_
  intro w0
  refine J.seq ?_
  refine J.region ?_
  refine O.p (Pu.assign rfl) rfl ?_
  refine O.nil ?_
  refine J.seq ?_
  refine J.seq ?_
  refine J.region ?_
  refine O.p (Pu.move rfl) rfl ?_
  refine O.q (Qt.lenM Tryd.runUnderlying35 rfl (Src.ro 2 rfl)) rfl ?_
  refine O.p (Pu.gtr rfl rfl) rfl ?_
  refine O.nil ?_
  refine J.cond rfl (fun h1 => ?_) (fun h1 => ?_)
  ·
    have p2 := of_decide_eq_true h1
    refine J.seq ?_
    refine J.region ?_
    refine O.l (Lo.call [] (by exact Tryd.call13) rfl law39_awake [] [] (by decide) rfl [] rfl (RoOk.ro 0 rfl [] rfl (RoOk.ro 1 rfl [] rfl RoOk.nil))) rfl ?_
    rintro _ _ ⟨_, ⟨rfl, rfl⟩, rfl⟩
    refine O.p (Pu.assign rfl) rfl ?_
    refine O.nil ?_
    exact J.ret (Fin.ret (rs := [.tmp 2]) rfl [_] ⟨rfl, trivial⟩ [] (by decide) [] rfl ⟨rfl, rfl⟩)
  ·
    have p4 := of_decide_eq_false h1
    refine J.skip ?_
    refine J.seq ?_
    refine J.region ?_
    refine O.p (Pu.assign rfl) rfl ?_
    refine O.nil ?_
    refine J.seq ?_
    refine J.seq ?_
    refine J.region ?_
    refine O.p (Pu.assign rfl) rfl ?_
    refine O.nil ?_
    refine J.block ?_
    refine J.nilRow 23 7 ?_
    refine J.loop (X := Nat × Value × List Ev) (fun ξ => ξ.1 ≤ l.length ∧ ξ.2.2.length ≤ ξ.1 ∧ Tc.Mays ξ.2.2) (fun ξ => [(0, lv), (2, .bool false), (3, ξ.2.1), (4, .int .i64 (ξ.1 : Int))]) (fun ξ => [row ξ.2.1 23 7 (ξ.2.2.map Ev.cells)]) (fun ξ => l.length - ξ.1) ⟨0, Value.slice none 0 0, []⟩ (show 0 ≤ l.length ∧ ([]).length ≤ 0 ∧ Tc.Mays ([]) from ⟨by omega, by simp, Tc.mays_nil⟩) ⟨rfl, rfl, rfl, (congrArg (fun z => some (Value.int .i64 z)) (by first | rfl | omega : (0 : Int) = (0 : Int))), trivial⟩ [0] (by decide) rfl ?_
    rintro ⟨k, V, out⟩ hq5
    obtain ⟨hk, hlen, hM⟩ : k ≤ l.length ∧ out.length ≤ k ∧ Tc.Mays out := hq5
    show J _ _ [(0, lv), (2, .bool false), (3, V), (4, .int .i64 (k : Int))] [row V 23 7 (out.map Ev.cells)]
    refine J.seq ?_
    refine J.seq ?_
    refine J.region ?_
    refine O.p (Pu.move rfl) rfl ?_
    refine O.p (Pu.move rfl) rfl ?_
    refine O.q (Qt.lenM Tryd.runUnderlying35 rfl (Src.ro 2 rfl)) rfl ?_
    refine O.p (Pu.lss rfl rfl) rfl ?_
    refine O.nil ?_
    refine J.cond rfl (fun h6 => ?_) (fun h6 => ?_)
    ·
      have p7 := of_decide_eq_true h6
      refine J.skip ?_
      refine J.seq ?_
      refine J.block ?_
      refine J.seq ?_
      refine J.region ?_
      refine O.p (Pu.move rfl) rfl ?_
      refine O.p (Pu.move rfl) rfl ?_
      obtain ⟨e8, he8⟩ : ∃ x_, l[k]? = some x_ := ⟨_, List.getElem?_eq_getElem (by first | omega | (simp only [List.length_append, List.length_cons, List.length_nil]; omega) | (rw [Tc.mix_len]; omega) | (rw [Tc.cnt_len]; omega))⟩
      refine O.q (Qt.idxM Tryd.runUnderlying35 Tryd.sizeOf23 rfl (Src.ro 2 rfl) rfl (by first | omega | (simp only [List.length_append, List.length_cons, List.length_nil]; omega) | (rw [Tc.mix_len]; omega) | (rw [Tc.cnt_len]; omega)) (by first | omega | (simp only [List.length_append, List.length_cons, List.length_nil]; omega) | (rw [Tc.mix_len]; omega) | (rw [Tc.cnt_len]; omega))) rfl ?_
      refine O.p (Pu.fieldAddr (off' := voff lv + ((k : Int)).toNat * 7 + 0) Tryd.runUnderlying23 rfl Tryd.sizeOf3 rfl rfl rfl) rfl ?_
      refine O.q (Qt.ld rfl (Cel.eltM (Src.ro 2 rfl) he8) (o := (voff lv + k * 7)) (off := 0) (by omega) (Cut.one Tryd.isAgg3 rfl)) rfl ?_
      refine O.p (Pu.geq rfl rfl) rfl ?_
      refine O.p (Pu.move rfl) rfl ?_
      refine by_bool (decide (1 ≤ e8.kind)) (fun h9 => ?_) (fun h9 => ?_)
      ·
        have p10 := of_decide_eq_true h9
        refine O.gq (t := 31) rfl rfl h9 rfl (Pu.qt (Pu.move rfl)) rfl ?_
        refine O.gq (t := 31) rfl rfl h9 rfl (Pu.qt (Pu.move rfl)) rfl ?_
        refine O.gq (t := 31) rfl rfl h9 rfl (Qt.idxM Tryd.runUnderlying35 Tryd.sizeOf23 rfl (Src.ro 2 rfl) rfl (by first | omega | (simp only [List.length_append, List.length_cons, List.length_nil]; omega) | (rw [Tc.mix_len]; omega) | (rw [Tc.cnt_len]; omega)) (by first | omega | (simp only [List.length_append, List.length_cons, List.length_nil]; omega) | (rw [Tc.mix_len]; omega) | (rw [Tc.cnt_len]; omega))) rfl ?_
        refine O.gq (t := 31) rfl rfl h9 rfl (Pu.qt (Pu.fieldAddr (off' := voff lv + ((k : Int)).toNat * 7 + 0) Tryd.runUnderlying23 rfl Tryd.sizeOf3 rfl rfl rfl)) rfl ?_
        refine O.gq (t := 31) rfl rfl h9 rfl (Qt.ld rfl (Cel.eltM (Src.ro 2 rfl) he8) (o := (voff lv + k * 7)) (off := 0) (by omega) (Cut.one Tryd.isAgg3 rfl)) rfl ?_
        refine O.gq (t := 31) rfl rfl h9 rfl (Pu.qt (Pu.leq rfl rfl)) rfl ?_
        refine O.p (Pu.pickT rfl h9 rfl) rfl ?_
        refine O.nil ?_
        refine J.cond rfl (fun h11 => ?_) (fun h11 => ?_)
        ·
          have p12 := of_decide_eq_true h11
          refine J.seq ?_
          refine J.region ?_
          refine O.p (Pu.move rfl) rfl ?_
          refine O.p (Pu.move rfl) rfl ?_
          refine O.q (Qt.idxM Tryd.runUnderlying35 Tryd.sizeOf23 rfl (Src.ro 2 rfl) rfl (by first | omega | (simp only [List.length_append, List.length_cons, List.length_nil]; omega) | (rw [Tc.mix_len]; omega) | (rw [Tc.cnt_len]; omega)) (by first | omega | (simp only [List.length_append, List.length_cons, List.length_nil]; omega) | (rw [Tc.mix_len]; omega) | (rw [Tc.cnt_len]; omega))) rfl ?_
          refine O.q (Qt.ld rfl (Cel.eltM (Src.ro 2 rfl) he8) (o := (voff lv + k * 7)) (off := 0) (by omega) (Cut.agg [.int .i64 e8.kind, .int .i64 e8.tick, .int .i64 e8.s, .int .i64 e8.id, .int .i64 e8.code, .int .i64 e8.a, .int .i64 e8.b] Tryd.isAgg23 Tryd.sizeOf23 rfl rfl)) rfl ?_
          refine O.l (Lo.alloc [.int .i64 0, .int .i64 0, .int .i64 0, .int .i64 0, .int .i64 0, .int .i64 0, .int .i64 0] (by exact Tryd.zeroValue23) rfl) rfl ?_
          rintro _ _ ⟨g13, rfl, rfl⟩
          refine O.l0 (Lo.store 0 (vs := [.int .i64 e8.kind, .int .i64 e8.tick, .int .i64 e8.s, .int .i64 e8.id, .int .i64 e8.code, .int .i64 e8.a, .int .i64 e8.b]) [.int .i64 e8.kind, .int .i64 e8.tick, .int .i64 e8.s, .int .i64 e8.id, .int .i64 e8.code, .int .i64 e8.a, .int .i64 e8.b] rfl rfl rfl (by exact Tryd.sizeOf23) rfl rfl rfl rfl rfl) ?_
          rintro _ _ rfl
          refine O.nil ?_
          refine J.seq ?_
          refine J.region ?_
          refine O.p (Pu.fieldAddr (off' := 2) Tryd.runUnderlying23 rfl Tryd.sizeOf3 rfl rfl rfl) rfl ?_
          refine O.q (Qt.ld rfl (Cel.var 0 rfl) (o := 0) (off := 2) rfl (Cut.one Tryd.isAgg3 rfl)) rfl ?_
          refine O.p (Pu.and3 rfl rfl) rfl ?_
          refine O.p (Pu.sub' rfl rfl (by first | omega | (have hx_ := Tc.mix_le (i := i) (by omega) (by assumption); have hy_ := Tc.cnt_le2 (i := i) (by omega) (by assumption); omega))) rfl ?_
          refine O.p (Pu.fieldAddr (off' := 2) Tryd.runUnderlying23 rfl Tryd.sizeOf3 rfl rfl rfl) rfl ?_
          refine O.l0 (Lo.store 0 (vs := [.int .i64 ((e8.s % 4) - 1)]) [.int .i64 e8.kind, .int .i64 e8.tick, .int .i64 ((e8.s % 4) - 1), .int .i64 e8.id, .int .i64 e8.code, .int .i64 e8.a, .int .i64 e8.b] rfl rfl rfl (by exact Tryd.sizeOf3) rfl rfl rfl rfl rfl) ?_
          rintro _ _ rfl
          refine O.nil ?_
          refine J.region ?_
          refine O.p (Pu.move rfl) rfl ?_
          refine O.q (Qt.ld rfl (Cel.var 0 rfl) (o := 0) (off := 0) rfl (Cut.agg [.int .i64 e8.kind, .int .i64 e8.tick, .int .i64 ((e8.s % 4) - 1), .int .i64 e8.id, .int .i64 e8.code, .int .i64 e8.a, .int .i64 e8.b] Tryd.isAgg23 Tryd.sizeOf23 rfl rfl)) rfl ?_
          refine O.l (Lo.buildM (s := 7) Ev.cells [(⟨e8.kind, e8.tick, (e8.s % 4) - 1, e8.id, e8.code, e8.a, e8.b⟩ : Ev)] [(0, .agg #[.int .i64 e8.kind, .int .i64 e8.tick, .int .i64 ((e8.s % 4) - 1), .int .i64 e8.id, .int .i64 e8.code, .int .i64 e8.a, .int .i64 e8.b])] (by exact Tryd.runUnderlying35) (by exact Tryd.sizeOf23) (by exact Tryd.zeroValue23) rfl rfl rfl (by kernel_rfl) rfl rfl) rfl ?_
          rintro V14 _ rfl
          refine O.l (Lo.appendM (s := 7) 2 (by exact Tryd.underlying35) (by exact (info23).1) (by exact (info23).2.1) (by exact (info23).2.2.1) (by exact (info23).2.2.2) rfl rfl rfl rfl rfl (Src.row 0 rfl) Ev.one (by first | omega | (simp only [List.length_append, List.length_cons, List.length_nil]; omega) | (rw [Tc.mix_len]; omega) | (rw [Tc.cnt_len]; omega)) (by first | omega | (simp only [List.length_append, List.length_cons, List.length_nil]; omega) | (rw [Tc.mix_len]; omega) | (rw [Tc.cnt_len]; omega))) rfl ?_
          rintro V15 _ rfl
          refine O.p (Pu.assign rfl) rfl ?_
          refine O.nil ?_
          refine J.blk ?_
          refine J.region ?_
          refine O.p (Pu.move rfl) rfl ?_
          refine O.p (Pu.add' rfl rfl (by first | omega | (have hx_ := Tc.mix_le (i := i) (by omega) (by assumption); have hy_ := Tc.cnt_le2 (i := i) (by omega) (by assumption); omega))) rfl ?_
          refine O.p (Pu.assign rfl) rfl ?_
          refine O.nil ?_
          exact J.lp ⟨k + 1, V15, out ++ ([(⟨e8.kind, e8.tick, (e8.s % 4) - 1, e8.id, e8.code, e8.a, e8.b⟩ : Ev)])⟩ (show (k + 1) ≤ l.length ∧ (out ++ ([(⟨e8.kind, e8.tick, (e8.s % 4) - 1, e8.id, e8.code, e8.a, e8.b⟩ : Ev)])).length ≤ (k + 1) ∧ Tc.Mays (out ++ ([(⟨e8.kind, e8.tick, (e8.s % 4) - 1, e8.id, e8.code, e8.a, e8.b⟩ : Ev)])) from ⟨by omega, (by first | omega | (simp only [List.length_append, List.length_cons, List.length_nil]; omega)), (by first | exact hM | exact Tc.mays_add hM (hI.at (by assumption)) (by omega) (by omega))⟩) (show l.length - (k + 1) < l.length - k from (by first | omega | (simp only [List.length_append, List.length_cons, List.length_nil]; omega) | (rw [Tc.mix_len]; omega) | (rw [Tc.cnt_len]; omega))) ⟨rfl, rfl, rfl, (congrArg (fun z => some (Value.int .i64 z)) (by first | rfl | omega : ((k : Int) + 1 : Int) = ((k + 1) : Int))), trivial⟩ [2] (by decide) rfl
        ·
          have p16 := of_decide_eq_false h11
          refine J.skip ?_
          refine J.blk ?_
          refine J.region ?_
          refine O.p (Pu.move rfl) rfl ?_
          refine O.p (Pu.add' rfl rfl (by first | omega | (have hx_ := Tc.mix_le (i := i) (by omega) (by assumption); have hy_ := Tc.cnt_le2 (i := i) (by omega) (by assumption); omega))) rfl ?_
          refine O.p (Pu.assign rfl) rfl ?_
          refine O.nil ?_
          exact J.lp ⟨k + 1, V, out⟩ (show (k + 1) ≤ l.length ∧ out.length ≤ (k + 1) ∧ Tc.Mays out from ⟨by omega, (by first | omega | (simp only [List.length_append, List.length_cons, List.length_nil]; omega)), (by first | exact hM | exact Tc.mays_add hM (hI.at (by assumption)) (by omega) (by omega))⟩) (show l.length - (k + 1) < l.length - k from (by first | omega | (simp only [List.length_append, List.length_cons, List.length_nil]; omega) | (rw [Tc.mix_len]; omega) | (rw [Tc.cnt_len]; omega))) ⟨rfl, rfl, rfl, (congrArg (fun z => some (Value.int .i64 z)) (by first | rfl | omega : ((k : Int) + 1 : Int) = ((k + 1) : Int))), trivial⟩ [0] (by decide) rfl
      ·
        have p17 := of_decide_eq_false h9
        refine O.gskip (t := 31) rfl rfl (no_bool (by rw [h9]; decide)) rfl rfl ?_
        refine O.gskip (t := 31) rfl rfl (no_bool (by rw [h9]; decide)) rfl rfl ?_
        refine O.gskip (t := 31) rfl rfl (no_bool (by rw [h9]; decide)) rfl rfl ?_
        refine O.gskip (t := 31) rfl rfl (no_bool (by rw [h9]; decide)) rfl rfl ?_
        refine O.gskip (t := 31) rfl rfl (no_bool (by rw [h9]; decide)) rfl rfl ?_
        refine O.gskip (t := 31) rfl rfl (no_bool (by rw [h9]; decide)) rfl rfl ?_
        refine O.p (Pu.pickF rfl h9 rfl) rfl ?_
        refine O.nil ?_
        refine J.condF rfl rfl ?_
        refine J.skip ?_
        refine J.blk ?_
        refine J.region ?_
        refine O.p (Pu.move rfl) rfl ?_
        refine O.p (Pu.add' rfl rfl (by first | omega | (have hx_ := Tc.mix_le (i := i) (by omega) (by assumption); have hy_ := Tc.cnt_le2 (i := i) (by omega) (by assumption); omega))) rfl ?_
        refine O.p (Pu.assign rfl) rfl ?_
        refine O.nil ?_
        exact J.lp ⟨k + 1, V, out⟩ (show (k + 1) ≤ l.length ∧ out.length ≤ (k + 1) ∧ Tc.Mays out from ⟨by omega, (by first | omega | (simp only [List.length_append, List.length_cons, List.length_nil]; omega)), (by first | exact hM | exact Tc.mays_add hM (hI.at (by assumption)) (by omega) (by omega))⟩) (show l.length - (k + 1) < l.length - k from (by first | omega | (simp only [List.length_append, List.length_cons, List.length_nil]; omega) | (rw [Tc.mix_len]; omega) | (rw [Tc.cnt_len]; omega))) ⟨rfl, rfl, rfl, (congrArg (fun z => some (Value.int .i64 z)) (by first | rfl | omega : ((k : Int) + 1 : Int) = ((k + 1) : Int))), trivial⟩ [0] (by decide) rfl
    ·
      have p18 := of_decide_eq_false h6
      refine J.exit _ rfl ?_
      refine J.seq ?_
      refine J.region ?_
      refine O.p (Pu.move rfl) rfl ?_
      refine O.l (Lo.call [V] (by exact Tryd.call20) rfl (tc_Text V out (by first | omega | (have h_ : (Mono.of ((c : Int) - 1) out).length ≤ out.length := List.length_filter_le _ out; omega)) (by exact Tc.mays_I hM)) [] [0] (by decide) rfl [row V 23 7 (out.map Ev.cells)] rfl (RoOk.ro 0 rfl [] rfl (RoOk.ro 1 rfl [] rfl (RoOk.of 0 rfl row_rd [] (by decide) rfl RoOk.nil)))) rfl ?_
      rintro _ _ ⟨_, ⟨rfl, rfl⟩, rfl⟩
      refine O.p (Pu.move rfl) rfl ?_
      refine O.p (Pu.extract rfl rfl) rfl ?_
      refine O.p (Pu.extract rfl rfl) rfl ?_
      refine O.p (Pu.assign rfl) rfl ?_
      refine O.p (Pu.assign rfl) rfl ?_
      refine O.nil ?_
      refine J.seq ?_
      refine J.region ?_
      refine O.p (Pu.move rfl) rfl ?_
      refine O.p (Pu.sAdd rfl rfl (by have h_ := Tc.mays_text hM; have h2_ := Tc.textK_len (Tc.mays_I hM) out.length; rw [h_]; simp only [List.length_append, List.length_cons, List.length_nil]; omega)) rfl ?_
      refine O.p (Pu.sAdd rfl rfl (by have h_ := Tc.mays_text hM; have h2_ := Tc.textK_len (Tc.mays_I hM) out.length; rw [h_]; simp only [List.length_append, List.length_cons, List.length_nil]; omega)) rfl ?_
      refine O.l (Lo.call [str ((([32, 10]) ++ ((Tc.text out).1)) ++ ([35]))] (by exact Tryd.call21) rfl (tc_ParseAll_eq ((([32, 10]) ++ ((Tc.text out).1)) ++ ([35])) out (by have h_ := Tc.mays_text hM; have h2_ := Tc.textK_len (Tc.mays_I hM) out.length; rw [h_]; simp only [List.length_append, List.length_cons, List.length_nil]; omega) (Tc.all_back hM)) [] [0] (by decide) rfl [row V 23 7 (out.map Ev.cells)] rfl (RoOk.ro 0 rfl [] rfl (RoOk.ro 1 rfl [] rfl RoOk.nil))) rfl ?_
      rintro _ _ ⟨_, ⟨V20, rfl, rfl⟩, rfl⟩
      refine O.p (Pu.move rfl) rfl ?_
      refine O.p (Pu.extract rfl rfl) rfl ?_
      refine O.p (Pu.extract rfl rfl) rfl ?_
      refine O.p (Pu.extract rfl rfl) rfl ?_
      refine O.p (Pu.assign rfl) rfl ?_
      refine O.p (Pu.assign rfl) rfl ?_
      refine O.p (Pu.assign rfl) rfl ?_
      refine O.nil ?_
      refine J.seq ?_
      refine J.seq ?_
      refine J.region ?_
      refine O.p (Pu.move rfl) rfl ?_
      refine O.p (Pu.neq rfl rfl) rfl ?_
      refine O.p (Pu.move rfl) rfl ?_
      refine O.gq (t := 67) rfl rfl (decide_eq_false (by rw [Tc.mays_text hM]; simp)) rfl (Pu.qt (Pu.move rfl)) rfl ?_
      refine O.gq (t := 67) rfl rfl (decide_eq_false (by rw [Tc.mays_text hM]; simp)) rfl (Pu.qt (Pu.move rfl)) rfl ?_
      refine O.gl (t := 67) rfl rfl (decide_eq_false (by rw [Tc.mays_text hM]; simp)) rfl (Lo.call [V20, V] (by exact Tryd.call22) rfl (r35_Same V20 V out (by omega)) [] [0, 1] (by decide) rfl [row V20 23 7 (out.map Ev.cells), row V 23 7 (out.map Ev.cells)] rfl (RoOk.of 0 rfl row_rd [] (by decide) rfl (RoOk.of 1 rfl row_rd [] (by decide) rfl RoOk.nil))) rfl ?_
      rintro _ _ ⟨_, ⟨rfl, rfl⟩, rfl⟩
      refine O.gq (t := 67) rfl rfl (decide_eq_false (by rw [Tc.mays_text hM]; simp)) rfl (Pu.qt (Pu.not rfl)) rfl ?_
      refine O.p (Pu.pickF rfl (decide_eq_false (by rw [Tc.mays_text hM]; simp)) rfl) rfl ?_
      refine O.p (Pu.move rfl) rfl ?_
      refine O.gq (t := 73) rfl rfl rfl rfl (Pu.qt (Pu.move rfl)) rfl ?_
      refine O.gq (t := 73) rfl rfl rfl rfl (Pu.qt (Pu.neq rfl rfl)) rfl ?_
      refine O.p (Pu.pickF rfl rfl rfl) rfl ?_
      refine O.p (Pu.move rfl) rfl ?_
      refine O.gq (t := 77) rfl rfl rfl rfl (Pu.qt (Pu.move rfl)) rfl ?_
      refine O.gq (t := 77) rfl rfl rfl rfl (Pu.qt (Pu.neq rfl rfl)) rfl ?_
      refine O.p (Pu.pickF rfl rfl rfl) rfl ?_
      refine O.nil ?_
      refine J.condF rfl rfl ?_
      refine J.skip ?_
      refine J.seq ?_
      refine J.region ?_
      refine O.l (Lo.makeSlice (n := 16) (s := 1) (bytes := 8) ((List.replicate 16 (0 : Int)).map encZ) (by exact Tryd.runUnderlying40) (fun w => run_typeInfo w (by exact (info3).1)) (by exact (info3).2.2.2) (by exact Tryd.sizeOf3) (by exact Tryd.zeroValue3) rfl rfl rfl rfl rfl (by kernel_rfl) rfl rfl) rfl ?_
      rintro V23 _ rfl
      refine O.p (Pu.assign rfl) rfl ?_
      refine O.nil ?_
      refine J.seq ?_
      refine J.seq ?_
      refine J.region ?_
      refine O.p (Pu.assign rfl) rfl ?_
      refine O.nil ?_
      refine J.block ?_
      refine J.loop (X := Nat) (fun ξ => ξ ≤ 4) (fun ξ => [(3, V), (11, V23), (12, .int .i64 ((ξ : Int) - 1))]) (fun ξ => [row V 23 7 (out.map Ev.cells), row V23 3 1 ((Tc.sumU out ξ).map encZ)]) (fun ξ => 4 - ξ) 0 (show 0 ≤ 4 from (by omega)) ⟨rfl, rfl, (congrArg (fun z => some (Value.int .i64 z)) (by first | rfl | omega : (-1 : Int) = (0 : Int) - 1)), trivial⟩ [2, 0] (by decide) (congrArg (fun (z : List Int) => ([row V 23 7 (out.map Ev.cells), row V23 3 1 (z.map encZ)] : List Sp)) (Tc.sumU_zero hM).symm) ?_
      rintro c hq24
      have hc : c ≤ 4 := hq24
      show J _ _ [(3, V), (11, V23), (12, .int .i64 ((c : Int) - 1))] [row V 23 7 (out.map Ev.cells), row V23 3 1 ((Tc.sumU out c).map encZ)]
      refine J.seq ?_
      refine J.seq ?_
      refine J.region ?_
      refine O.p (Pu.move rfl) rfl ?_
      refine O.p (Pu.lss rfl rfl) rfl ?_
      refine O.nil ?_
      refine J.cond rfl (fun h25 => ?_) (fun h25 => ?_)
      ·
        have p26 := of_decide_eq_true h25
        refine J.skip ?_
        refine J.seq ?_
        refine J.block ?_
        refine J.seq ?_
        refine J.region ?_
        refine O.p (Pu.move rfl) rfl ?_
        refine O.p (Pu.move rfl) rfl ?_
        refine O.l (Lo.call [.int .i64 ((c : Int) - 1), V] (by exact Tryd.call24) rfl (trace_of ((c : Int) - 1) V out (by first | omega | (have h_ : (Mono.of ((c : Int) - 1) out).length ≤ out.length := List.length_filter_le _ out; omega))) [] [0, 1] (by decide) rfl [row V 23 7 (out.map Ev.cells), row V23 3 1 ((Tc.sumU out c).map encZ)] rfl (RoOk.of 0 rfl row_rd [] (by decide) rfl RoOk.nil)) rfl ?_
        rintro v27 _ ⟨_, rfl, rfl⟩
        refine O.l (Lo.call [v27] (by exact Tryd.call23) rfl (trace_Count v27 (Mono.of ((c : Int) - 1) out) (by first | omega | (have h_ : (Mono.of ((c : Int) - 1) out).length ≤ out.length := List.length_filter_le _ out; omega))) [] [0, 1, 2] (by decide) rfl [row v27 23 7 ((Mono.of ((c : Int) - 1) out).map Ev.cells), row V 23 7 (out.map Ev.cells), row V23 3 1 ((Tc.sumU out c).map encZ)] rfl (RoOk.of 0 rfl row_rd [] (by decide) rfl RoOk.nil)) rfl ?_
        rintro v28 _ ⟨_, rfl, rfl⟩
        refine O.p (Pu.assign rfl) rfl ?_
        refine O.nil ?_
        refine J.seq ?_
        refine J.seq ?_
        refine J.region ?_
        refine O.p (Pu.move rfl) rfl ?_
        refine O.q (Qt.lenM Tryd.runUnderlying40 rfl (Src.row 0 rfl)) rfl ?_
        refine O.p (Pu.neq rfl rfl) rfl ?_
        refine O.nil ?_
        refine J.condF rfl (decide_eq_false (by rw [Tc.cnt_len]; decide)) ?_
        refine J.skip ?_
        refine J.seq ?_
        refine J.region ?_
        refine O.p (Pu.assign rfl) rfl ?_
        refine O.nil ?_
        refine J.block ?_
        refine J.loop (X := Nat) (fun ξ => ξ ≤ 16) (fun ξ => [(3, V), (11, V23), (12, .int .i64 ((c : Int) - 1)), (13, v28), (14, .int .i64 (ξ : Int))]) (fun ξ => [row V 23 7 (out.map Ev.cells), row V23 3 1 ((Tc.mix (Tc.sumU out c) (Tc.cnt (Mono.of ((c : Int) - 1) out)) ξ).map encZ), row v28 3 1 ((Tc.cnt (Mono.of ((c : Int) - 1) out)).map encZ)]) (fun ξ => 16 - ξ) 0 (show 0 ≤ 16 from (by omega)) ⟨rfl, rfl, rfl, rfl, (congrArg (fun z => some (Value.int .i64 z)) (by first | rfl | omega : (0 : Int) = (0 : Int))), trivial⟩ [2, 3, 0] (by decide) (congrArg (fun (z : List Int) => ([row V 23 7 (out.map Ev.cells), row V23 3 1 (z.map encZ), row v28 3 1 ((Tc.cnt (Mono.of ((c : Int) - 1) out)).map encZ)] : List Sp)) (Tc.mix_zero (Tc.sumU_len _ _)).symm) ?_
        rintro i hq29
        have hi : i ≤ 16 := hq29
        show J _ _ [(3, V), (11, V23), (12, .int .i64 ((c : Int) - 1)), (13, v28), (14, .int .i64 (i : Int))] [row V 23 7 (out.map Ev.cells), row V23 3 1 ((Tc.mix (Tc.sumU out c) (Tc.cnt (Mono.of ((c : Int) - 1) out)) i).map encZ), row v28 3 1 ((Tc.cnt (Mono.of ((c : Int) - 1) out)).map encZ)]
        refine J.seq ?_
        refine J.seq ?_
        refine J.region ?_
        refine O.p (Pu.move rfl) rfl ?_
        refine O.p (Pu.lss rfl rfl) rfl ?_
        refine O.nil ?_
        refine J.cond rfl (fun h30 => ?_) (fun h30 => ?_)
        ·
          have p31 := of_decide_eq_true h30
          refine J.skip ?_
          refine J.seq ?_
          refine J.block ?_
          refine J.drawTail 12 Tryd.mixed (by kernel_rfl) ?_
          refine S.p (Pu.move rfl) rfl ?_
          refine S.p (Pu.move rfl) rfl ?_
          refine S.p (Pu.move rfl) rfl ?_
          refine S.p (Pu.move rfl) rfl ?_
          obtain ⟨e32, he32⟩ : ∃ x_, (Tc.mix (Tc.sumU out c) (Tc.cnt (Mono.of ((c : Int) - 1) out)) i)[i]? = some x_ := ⟨_, List.getElem?_eq_getElem (by first | omega | (simp only [List.length_append, List.length_cons, List.length_nil]; omega) | (rw [Tc.mix_len]; omega) | (rw [Tc.cnt_len]; omega))⟩
          refine S.q (Qt.idxM Tryd.runUnderlying40 Tryd.sizeOf3 rfl (Src.row 1 rfl) rfl (by first | omega | (simp only [List.length_append, List.length_cons, List.length_nil]; omega) | (rw [Tc.mix_len]; omega) | (rw [Tc.cnt_len]; omega)) (by first | omega | (simp only [List.length_append, List.length_cons, List.length_nil]; omega) | (rw [Tc.mix_len]; omega) | (rw [Tc.cnt_len]; omega))) rfl ?_
          refine S.q (Qt.ld rfl (Cel.eltM (Src.row 1 rfl) he32) (o := (voff V23 + i * 1)) (off := 0) (by omega) (Cut.one Tryd.isAgg3 rfl)) rfl ?_
          refine S.p (Pu.move rfl) rfl ?_
          refine S.p (Pu.move rfl) rfl ?_
          obtain ⟨e33, he33⟩ : ∃ x_, (Tc.cnt (Mono.of ((c : Int) - 1) out))[i]? = some x_ := ⟨_, List.getElem?_eq_getElem (by first | omega | (simp only [List.length_append, List.length_cons, List.length_nil]; omega) | (rw [Tc.mix_len]; omega) | (rw [Tc.cnt_len]; omega))⟩
          refine S.q (Qt.idxM Tryd.runUnderlying40 Tryd.sizeOf3 rfl (Src.row 2 rfl) rfl (by first | omega | (simp only [List.length_append, List.length_cons, List.length_nil]; omega) | (rw [Tc.mix_len]; omega) | (rw [Tc.cnt_len]; omega)) (by first | omega | (simp only [List.length_append, List.length_cons, List.length_nil]; omega) | (rw [Tc.mix_len]; omega) | (rw [Tc.cnt_len]; omega))) rfl ?_
          refine S.q (Qt.ld rfl (Cel.eltM (Src.row 2 rfl) he33) (o := (voff v28 + i * 1)) (off := 0) (by omega) (Cut.one Tryd.isAgg3 rfl)) rfl ?_
          refine S.p (Pu.add' rfl rfl (by first | omega | (have hx_ := Tc.mix_le (i := i) (by omega) (by assumption); have hy_ := Tc.cnt_le2 (i := i) (by omega) (by assumption); omega))) rfl ?_
          refine S.q (Qt.idxM Tryd.runUnderlying40 Tryd.sizeOf3 rfl (Src.row 1 rfl) rfl (by first | omega | (simp only [List.length_append, List.length_cons, List.length_nil]; omega) | (rw [Tc.mix_len]; omega) | (rw [Tc.cnt_len]; omega)) (by first | omega | (simp only [List.length_append, List.length_cons, List.length_nil]; omega) | (rw [Tc.mix_len]; omega) | (rw [Tc.cnt_len]; omega))) rfl ?_
          refine S.endO ?_
          refine O.l0 (Lo.storeM 1 (j := i) (off := 0) (vs := [.int .i64 (e32 + e33)]) (e := [.int .i64 e32]) (e32 + e33) rfl rfl rfl rfl (by omega) he32 rfl (by exact Tryd.sizeOf3) rfl rfl rfl rfl rfl) ?_
          rintro _ _ rfl
          have hs34 : ((Tc.mix (Tc.sumU out c) (Tc.cnt (Mono.of ((c : Int) - 1) out)) i).set i (e32 + e33))[i]? = some (e32 + e33) := List.getElem?_set_self (List.getElem?_eq_some_iff.1 he32).1
          refine O.nil ?_
          refine J.blk ?_
          refine J.region ?_
          refine O.p (Pu.move rfl) rfl ?_
          refine O.p (Pu.add' rfl rfl (by first | omega | (have hx_ := Tc.mix_le (i := i) (by omega) (by assumption); have hy_ := Tc.cnt_le2 (i := i) (by omega) (by assumption); omega))) rfl ?_
          refine O.p (Pu.assign rfl) rfl ?_
          refine O.nil ?_
          exact J.lp (i + 1) (show (i + 1) ≤ 16 from (by omega)) (show 16 - (i + 1) < 16 - i from (by first | omega | (simp only [List.length_append, List.length_cons, List.length_nil]; omega) | (rw [Tc.mix_len]; omega) | (rw [Tc.cnt_len]; omega))) ⟨rfl, rfl, rfl, rfl, (congrArg (fun z => some (Value.int .i64 z)) (by first | rfl | omega : ((i : Int) + 1 : Int) = ((i + 1) : Int))), trivial⟩ [0, 1, 2] (by decide) (congrArg (fun (z : List Int) => ([row V 23 7 (out.map Ev.cells), row V23 3 1 (z.map encZ), row v28 3 1 ((Tc.cnt (Mono.of ((c : Int) - 1) out)).map encZ)] : List Sp)) (Tc.mix_next (by omega) (by assumption) (by assumption)))
        ·
          have p35 := of_decide_eq_false h30
          refine J.exit _ rfl ?_
          refine J.blk ?_
          refine J.region ?_
          refine O.p (Pu.move rfl) rfl ?_
          refine O.p (Pu.add' rfl rfl (by first | omega | (have hx_ := Tc.mix_le (i := i) (by omega) (by assumption); have hy_ := Tc.cnt_le2 (i := i) (by omega) (by assumption); omega))) rfl ?_
          refine O.p (Pu.assign rfl) rfl ?_
          refine O.nil ?_
          exact J.lp (c + 1) (show (c + 1) ≤ 4 from (by omega)) (show 4 - (c + 1) < 4 - c from (by first | omega | (simp only [List.length_append, List.length_cons, List.length_nil]; omega) | (rw [Tc.mix_len]; omega) | (rw [Tc.cnt_len]; omega))) ⟨rfl, rfl, (congrArg (fun z => some (Value.int .i64 z)) (by first | rfl | omega : (((c : Int) - 1) + 1 : Int) = ((c + 1) : Int) - 1)), trivial⟩ [0, 1] (by decide) (congrArg (fun (z : List Int) => ([row V 23 7 (out.map Ev.cells), row V23 3 1 (z.map encZ)] : List Sp)) (Tc.mix_all (by omega)))
      ·
        have p36 := of_decide_eq_false h25
        refine J.exit _ rfl ?_
        refine J.seq ?_
        refine J.region ?_
        refine O.p (Pu.move rfl) rfl ?_
        refine O.l (Lo.call [V] (by exact Tryd.call23) rfl (trace_Count V out (by first | omega | (have h_ : (Mono.of ((c : Int) - 1) out).length ≤ out.length := List.length_filter_le _ out; omega))) [] [0, 1] (by decide) rfl [row V 23 7 (out.map Ev.cells), row V23 3 1 ((Tc.sumU out c).map encZ)] rfl (RoOk.of 0 rfl row_rd [] (by decide) rfl RoOk.nil)) rfl ?_
        rintro v37 _ ⟨_, rfl, rfl⟩
        refine O.p (Pu.move rfl) rfl ?_
        refine O.l (Lo.call [v37, V23] (by exact Tryd.call25) rfl (r01_Same2 v37 V23 (Tc.cnt out) (Tc.sumU out c) (by rw [Tc.cnt_len]; decide) (Tc.sumU_all hM (by omega))) [] [0, 1, 2] (by decide) rfl [row v37 3 1 ((Tc.cnt out).map encZ), row V 23 7 (out.map Ev.cells), row V23 3 1 ((Tc.sumU out c).map encZ)] rfl (RoOk.of 0 rfl row_rd [] (by decide) rfl (RoOk.of 2 rfl row_rd [] (by decide) rfl RoOk.nil))) rfl ?_
        rintro _ _ ⟨_, ⟨rfl, rfl⟩, rfl⟩
        refine O.p (Pu.move rfl) rfl ?_
        refine O.gl (t := 113) rfl rfl rfl rfl (Lo.call [] (by exact Tryd.call13) rfl law39_awake [] [0, 1, 2] (by decide) rfl [row v37 3 1 ((Tc.cnt out).map encZ), row V 23 7 (out.map Ev.cells), row V23 3 1 ((Tc.sumU out c).map encZ)] rfl (RoOk.ro 0 rfl [] rfl (RoOk.ro 1 rfl [] rfl RoOk.nil))) rfl ?_
        rintro _ _ ⟨_, ⟨rfl, rfl⟩, rfl⟩
        refine O.p (Pu.pickT rfl rfl rfl) rfl ?_
        refine O.p (Pu.assign rfl) rfl ?_
        refine O.nil ?_
        exact J.ret (Fin.ret (rs := [.tmp 2]) rfl [_] ⟨rfl, trivial⟩ [] (by decide) [] rfl ⟨rfl, rfl⟩)

end Go.Proofs.YtnfkoohgdcocdaaDoor
