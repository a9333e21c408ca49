/-
  Walks, printed by a program of mine (lk.py): each function meets its contract.
-/
import Derived.KernelRfl
import Derived.Test.YtilcmkegbmppnaaDoorCX3
import Derived.Test.YtilcmkegbmppnaaDoorCX5
namespace Go.Proofs.YtilcmkegbmppnaaDoor
open Go Go.LK
set_option linter.unusedSimpArgs false

theorem cf_Call_eq (line : List UInt8) (c : Cl) (hs : line.length ≤ 100000) (h : Cf.numbers line Cf.callW Cf.tails = (Cf.clL c, true)) : Tri Tryd.prog 12 #[str line] [libW] [] (fun v L' => v = .tuple #[.agg #[.int .i64 c.to, .int .i64 c.tier, .int .i64 c.weight, .int .i64 c.most], .bool true] ∧ L' = []) := by
  have := cf_Call line hs
  exact fun w hro hst => (this w hro hst).mono fun _ _ ⟨v, L', he, ⟨v0, v1, v2, v3, hl, hv, hL⟩, hs⟩ => by
    rw [Cf.callL_yes (by rw [h]), h] at hl
    rw [h] at hv
    simp only [Cf.clL, List.cons.injEq, and_true] at hl
    obtain ⟨rfl, rfl, rfl, rfl⟩ := hl
    exact ⟨v, L', he, ⟨hv, hL⟩, hs⟩

set_option maxRecDepth 100000 in
set_option maxHeartbeats 1000000 in
theorem law28_awake  : Tri Tryd.prog 7 #[] [libW, var 0 (Kn.names.map vS) 130] [] (fun v L' => v = .bool true ∧ L' = []) := by
  refine Tri.enter (args := []) (body := _) 51 Tryd.func7 rfl Tryd.ntmps7 rfl ?_
  intro w0
  refine J.seq ?_
  refine J.region ?_
  refine O.p (Pu.assign rfl) rfl ?_
  refine O.nil ?_
  refine J.seq ?_
  refine J.region ?_
  refine O.p (Pu.build [(0, .int .i64 1), (1, .int .i64 4), (2, .int .i64 10), (3, .int .i64 5), (4, .int .i64 1), (5, .int .i64 3), (6, .int .i64 2)] [.int .i64 1, .int .i64 4, .int .i64 10, .int .i64 5, .int .i64 1, .int .i64 3, .int .i64 2] #[(0, 1), (1, 1), (2, 1), (3, 1), (4, 1), (5, 1), (6, 1)] Tryd.runUnderlying23 Tryd.zeroValue23 (places23 Tryd.underlying23) rfl (by kernel_rfl)) rfl ?_
  refine O.p (Pu.build [(0, .int .i64 1), (2, .int .i64 4), (3, .int .i64 20)] [.int .i64 1, .int .i64 0, .int .i64 4, .int .i64 20] #[(0, 1), (1, 1), (2, 1), (3, 1)] Tryd.runUnderlying38 Tryd.zeroValue38 (places38 Tryd.underlying38) rfl (by kernel_rfl)) rfl ?_
  refine O.l (Lo.buildM (s := 4) Cl.cells [(⟨1, 0, 4, 20⟩ : Cl)] [(0, .agg #[.int .i64 1, .int .i64 0, .int .i64 4, .int .i64 20])] (by exact Tryd.runUnderlying24) (by exact Tryd.sizeOf38) (by exact Tryd.zeroValue38) rfl rfl rfl (by kernel_rfl) rfl rfl) rfl ?_
  rintro V1 _ rfl
  refine O.one (Src.row 0 rfl) (fun hV2 => ?_)
  refine O.p (Pu.build [(0, .int .i64 2), (1, .int .i64 8), (2, .int .i64 10), (3, .int .i64 1), (4, .int .i64 9), (5, .int .i64 50), (6, .agg #[.int .i64 1, .int .i64 4, .int .i64 10, .int .i64 5, .int .i64 1, .int .i64 3, .int .i64 2]), (7, V1)] [.int .i64 2, .int .i64 8, .int .i64 10, .int .i64 1, .int .i64 9, .int .i64 50, .int .i64 1, .int .i64 4, .int .i64 10, .int .i64 5, .int .i64 1, .int .i64 3, .int .i64 2, V1] #[(0, 1), (1, 1), (2, 1), (3, 1), (4, 1), (5, 1), (6, 7), (13, 1)] Tryd.runUnderlying26 Tryd.zeroValue26 (places26 Tryd.underlying26) rfl (by cases V1 <;> first | (simp [Value.oneCell'] at hV2; done) | (kernel_rfl; done))) rfl ?_
  refine O.l (Lo.alloc [.int .i64 0, .int .i64 0, .int .i64 0, .int .i64 0, .int .i64 0, .int .i64 0, .int .i64 0, .int .i64 0, .int .i64 0, .int .i64 0, .int .i64 0, .int .i64 0, .int .i64 0, Value.slice none 0 0] (by exact Tryd.zeroValue26) rfl) rfl ?_
  rintro _ _ ⟨g3, rfl, rfl⟩
  refine O.l0 (Lo.store 0 (vs := [.int .i64 2, .int .i64 8, .int .i64 10, .int .i64 1, .int .i64 9, .int .i64 50, .int .i64 1, .int .i64 4, .int .i64 10, .int .i64 5, .int .i64 1, .int .i64 3, .int .i64 2, V1]) [.int .i64 2, .int .i64 8, .int .i64 10, .int .i64 1, .int .i64 9, .int .i64 50, .int .i64 1, .int .i64 4, .int .i64 10, .int .i64 5, .int .i64 1, .int .i64 3, .int .i64 2, V1] rfl rfl rfl (by exact Tryd.sizeOf26) rfl rfl (by simp only [List.all_cons, List.all_nil, Bool.and_true, hV2] <;> rfl) rfl rfl) ?_
  rintro _ _ rfl
  refine O.nil ?_
  refine J.seq ?_
  refine J.region ?_
  refine O.q (Qt.ld rfl (Cel.var 0 rfl) (o := 0) (off := 0) rfl (Cut.agg [.int .i64 2, .int .i64 8, .int .i64 10, .int .i64 1, .int .i64 9, .int .i64 50, .int .i64 1, .int .i64 4, .int .i64 10, .int .i64 5, .int .i64 1, .int .i64 3, .int .i64 2, V1] Tryd.isAgg26 Tryd.sizeOf26 rfl rfl)) rfl ?_
  refine O.l (Lo.call [.agg #[.int .i64 2, .int .i64 8, .int .i64 10, .int .i64 1, .int .i64 9, .int .i64 50, .int .i64 1, .int .i64 4, .int .i64 10, .int .i64 5, .int .i64 1, .int .i64 3, .int .i64 2, V1]] (by exact Tryd.call15) rfl (cf_Lines 2 8 10 1 9 50 1 4 10 5 1 3 2 V1 ([(⟨1, 0, 4, 20⟩ : Cl)]) Cf.aw_I Cf.aw_Cs (by decide)) [] [0, 1] (by decide) rfl [var g3 [.int .i64 2, .int .i64 8, .int .i64 10, .int .i64 1, .int .i64 9, .int .i64 50, .int .i64 1, .int .i64 4, .int .i64 10, .int .i64 5, .int .i64 1, .int .i64 3, .int .i64 2, V1] 26, row V1 38 4 (([(⟨1, 0, 4, 20⟩ : Cl)]).map Cl.cells)] rfl (RoOk.ro 0 rfl [] rfl (RoOk.ro 1 rfl [] rfl (RoOk.of 1 rfl row_rd [] (by decide) rfl RoOk.nil)))) rfl ?_
  rintro v4 _ ⟨_, rfl, rfl⟩
  refine O.p (Pu.assign rfl) rfl ?_
  refine O.nil ?_
  refine J.seq ?_
  refine J.region ?_
  refine O.l (Lo.call [str ([99, 97, 108, 108, 32, 116, 111, 61, 49, 32, 116, 105, 101, 114, 61, 48, 32, 119, 101, 105, 103, 104, 116, 61, 52, 32, 109, 111, 115, 116, 61, 50, 48])] (by exact Tryd.call12) rfl (cf_Call_eq ([99, 97, 108, 108, 32, 116, 111, 61, 49, 32, 116, 105, 101, 114, 61, 48, 32, 119, 101, 105, 103, 104, 116, 61, 52, 32, 109, 111, 115, 116, 61, 50, 48]) ⟨1, 0, 4, 20⟩ (by decide) (by rw [← Cf.aw_row]; exact Cf.call_back (c := ⟨1, 0, 4, 20⟩) Cf.aw_C)) [] [0, 1, 2] (by decide) rfl [row v4 9 1 ((Cf.lines [2, 8, 10, 1, 9, 50, 1, 4, 10, 5, 1, 3, 2] ([(⟨1, 0, 4, 20⟩ : Cl)])).map encS), var g3 [.int .i64 2, .int .i64 8, .int .i64 10, .int .i64 1, .int .i64 9, .int .i64 50, .int .i64 1, .int .i64 4, .int .i64 10, .int .i64 5, .int .i64 1, .int .i64 3, .int .i64 2, V1] 26, row V1 38 4 (([(⟨1, 0, 4, 20⟩ : Cl)]).map Cl.cells)] rfl (RoOk.ro 0 rfl [] rfl RoOk.nil)) rfl ?_
  rintro _ _ ⟨_, ⟨rfl, rfl⟩, rfl⟩
  refine O.p (Pu.move rfl) rfl ?_
  refine O.p (Pu.extract rfl rfl) rfl ?_
  refine O.p (Pu.extract rfl rfl) rfl ?_
  refine O.l (Lo.alloc [.int .i64 0, .int .i64 0, .int .i64 0, .int .i64 0] (by exact Tryd.zeroValue38) rfl) rfl ?_
  rintro _ _ ⟨g6, rfl, rfl⟩
  refine O.l0 (Lo.store 0 (vs := [.int .i64 1, .int .i64 0, .int .i64 4, .int .i64 20]) [.int .i64 1, .int .i64 0, .int .i64 4, .int .i64 20] rfl rfl rfl (by exact Tryd.sizeOf38) rfl rfl rfl rfl rfl) ?_
  rintro _ _ rfl
  refine O.p (Pu.assign rfl) rfl ?_
  refine O.nil ?_
  refine J.seq ?_
  refine J.drawMix [(0, false), (1, true), (2, false), (3, false), (4, false), (5, true), (6, false), (7, false), (8, false), (9, false), (10, false), (11, false), (12, false), (13, false), (14, false), (15, false), (16, false), (17, false), (18, false), (19, false), (20, false), (21, false), (22, false), (23, false), (24, false), (25, false), (26, false), (27, false), (28, false), (29, false), (30, false), (31, false), (32, true), (33, false), (34, false), (35, false), (36, false)] [0, 1, 2, 3] [var g6 [.int .i64 1, .int .i64 0, .int .i64 4, .int .i64 20] 38, row v4 9 1 ((Cf.lines [2, 8, 10, 1, 9, 50, 1, 4, 10, 5, 1, 3, 2] ([(⟨1, 0, 4, 20⟩ : Cl)])).map encS), var g3 [.int .i64 2, .int .i64 8, .int .i64 10, .int .i64 1, .int .i64 9, .int .i64 50, .int .i64 1, .int .i64 4, .int .i64 10, .int .i64 5, .int .i64 1, .int .i64 3, .int .i64 2, V1] 26, row V1 38 4 (([(⟨1, 0, 4, 20⟩ : Cl)]).map Cl.cells)] Tryd.mixed (by kernel_rfl) (by decide) rfl ?_
  refine Mx.q rfl (Qt.ld rfl (Cel.var 2 rfl) (o := 0) (off := 0) rfl (Cut.agg [.int .i64 2, .int .i64 8, .int .i64 10, .int .i64 1, .int .i64 9, .int .i64 50, .int .i64 1, .int .i64 4, .int .i64 10, .int .i64 5, .int .i64 1, .int .i64 3, .int .i64 2, V1] Tryd.isAgg26 Tryd.sizeOf26 rfl rfl)) rfl ?_
  refine Mx.l rfl (Lo.call [.agg #[.int .i64 2, .int .i64 8, .int .i64 10, .int .i64 1, .int .i64 9, .int .i64 50, .int .i64 1, .int .i64 4, .int .i64 10, .int .i64 5, .int .i64 1, .int .i64 3, .int .i64 2, V1], .int .i64 0, .int .i64 2, .int .i64 8] (by exact Tryd.call23) rfl (cf_Check 2 8 10 1 9 50 1 4 10 5 1 3 2 V1 ([(⟨1, 0, 4, 20⟩ : Cl)]) 0 2 8 (by decide)) [] [0, 1, 2, 3] (by decide) rfl [var g6 [.int .i64 1, .int .i64 0, .int .i64 4, .int .i64 20] 38, row v4 9 1 ((Cf.lines [2, 8, 10, 1, 9, 50, 1, 4, 10, 5, 1, 3, 2] ([(⟨1, 0, 4, 20⟩ : Cl)])).map encS), var g3 [.int .i64 2, .int .i64 8, .int .i64 10, .int .i64 1, .int .i64 9, .int .i64 50, .int .i64 1, .int .i64 4, .int .i64 10, .int .i64 5, .int .i64 1, .int .i64 3, .int .i64 2, V1] 26, row V1 38 4 (([(⟨1, 0, 4, 20⟩ : Cl)]).map Cl.cells)] rfl (RoOk.of 3 rfl row_rd [] (by decide) rfl RoOk.nil)) rfl ?_
  rintro _ _ ⟨_, ⟨rfl, rfl⟩, rfl⟩
  refine MxK.all [0, 1, 2, 3] [var g6 [.int .i64 1, .int .i64 0, .int .i64 4, .int .i64 20] 38, row v4 9 1 ((Cf.lines [2, 8, 10, 1, 9, 50, 1, 4, 10, 5, 1, 3, 2] ([(⟨1, 0, 4, 20⟩ : Cl)])).map encS), var g3 [.int .i64 2, .int .i64 8, .int .i64 10, .int .i64 1, .int .i64 9, .int .i64 50, .int .i64 1, .int .i64 4, .int .i64 10, .int .i64 5, .int .i64 1, .int .i64 3, .int .i64 2, V1] 26, row V1 38 4 (([(⟨1, 0, 4, 20⟩ : Cl)]).map Cl.cells)] (by decide) rfl (by kernel_rfl) ?_
  refine Mx.p rfl (Pu.eql rfl rfl) rfl ?_
  refine Mx.p rfl (Pu.move rfl) rfl ?_
  refine Mx.gq (t := 18) rfl rfl rfl (by decide) rfl (Qt.ld rfl (Cel.var 2 rfl) (o := 0) (off := 0) rfl (Cut.agg [.int .i64 2, .int .i64 8, .int .i64 10, .int .i64 1, .int .i64 9, .int .i64 50, .int .i64 1, .int .i64 4, .int .i64 10, .int .i64 5, .int .i64 1, .int .i64 3, .int .i64 2, V1] Tryd.isAgg26 Tryd.sizeOf26 rfl rfl)) rfl ?_
  refine Mx.gl (t := 18) rfl rfl rfl (by decide) rfl (Lo.call [.agg #[.int .i64 2, .int .i64 8, .int .i64 10, .int .i64 1, .int .i64 9, .int .i64 50, .int .i64 1, .int .i64 4, .int .i64 10, .int .i64 5, .int .i64 1, .int .i64 3, .int .i64 2, V1], .int .i64 1, .int .i64 2, .int .i64 8] (by exact Tryd.call23) rfl (cf_Check 2 8 10 1 9 50 1 4 10 5 1 3 2 V1 ([(⟨1, 0, 4, 20⟩ : Cl)]) 1 2 8 (by decide)) [] [0, 1, 2, 3] (by decide) rfl [var g6 [.int .i64 1, .int .i64 0, .int .i64 4, .int .i64 20] 38, row v4 9 1 ((Cf.lines [2, 8, 10, 1, 9, 50, 1, 4, 10, 5, 1, 3, 2] ([(⟨1, 0, 4, 20⟩ : Cl)])).map encS), var g3 [.int .i64 2, .int .i64 8, .int .i64 10, .int .i64 1, .int .i64 9, .int .i64 50, .int .i64 1, .int .i64 4, .int .i64 10, .int .i64 5, .int .i64 1, .int .i64 3, .int .i64 2, V1] 26, row V1 38 4 (([(⟨1, 0, 4, 20⟩ : Cl)]).map Cl.cells)] rfl (RoOk.of 3 rfl row_rd [] (by decide) rfl RoOk.nil)) rfl ?_
  rintro _ _ ⟨_, ⟨rfl, rfl⟩, rfl⟩
  refine MxK.go [0, 1, 2, 3] [0, 1, 2, 3] [var g6 [.int .i64 1, .int .i64 0, .int .i64 4, .int .i64 20] 38, row v4 9 1 ((Cf.lines [2, 8, 10, 1, 9, 50, 1, 4, 10, 5, 1, 3, 2] ([(⟨1, 0, 4, 20⟩ : Cl)])).map encS), var g3 [.int .i64 2, .int .i64 8, .int .i64 10, .int .i64 1, .int .i64 9, .int .i64 50, .int .i64 1, .int .i64 4, .int .i64 10, .int .i64 5, .int .i64 1, .int .i64 3, .int .i64 2, V1] 26, row V1 38 4 (([(⟨1, 0, 4, 20⟩ : Cl)]).map Cl.cells)] (by decide) rfl (by decide) rfl ?_
  refine Mx.gq (t := 18) rfl rfl rfl (by decide) rfl (Pu.qt (Pu.eql rfl rfl)) rfl ?_
  refine Mx.p rfl (Pu.pickT rfl (by decide) rfl) rfl ?_
  refine Mx.p rfl (Pu.move rfl) rfl ?_
  refine Mx.gq (t := 23) rfl rfl rfl (by decide) rfl (Pu.qt (Pu.move rfl)) rfl ?_
  refine Mx.gq (t := 23) rfl rfl rfl (by decide) rfl (Qt.lenM Tryd.runUnderlying27 rfl (Src.row 1 rfl)) rfl ?_
  refine Mx.gq (t := 23) rfl rfl rfl (by decide) rfl (Pu.qt (Pu.eql rfl rfl)) rfl ?_
  refine Mx.p rfl (Pu.pickT rfl (by decide) rfl) rfl ?_
  refine Mx.p rfl (Pu.move rfl) rfl ?_
  refine Mx.gq (t := 28) rfl rfl rfl (by decide) rfl (Pu.qt (Pu.move rfl)) rfl ?_
  obtain ⟨e9, he9⟩ : ∃ x_, (Cf.lines [2, 8, 10, 1, 9, 50, 1, 4, 10, 5, 1, 3, 2] ([(⟨1, 0, 4, 20⟩ : Cl)]))[1]? = some x_ := ⟨_, List.getElem?_eq_getElem (by first | decide | (rw [Cf.lines_len]; decide))⟩
  refine Mx.gq (t := 28) rfl rfl rfl (by decide) rfl (Qt.idxM Tryd.runUnderlying27 Tryd.sizeOf9 rfl (Src.row 1 rfl) rfl (by first | decide | (rw [Cf.lines_len]; decide)) (by first | decide | (rw [Cf.lines_len]; decide))) rfl ?_
  refine Mx.gq (t := 28) rfl rfl rfl (by decide) rfl (Qt.ld rfl (Cel.eltM (Src.row 1 rfl) he9) (o := (voff v4 + 1 * 1)) (off := 0) (by omega) (Cut.one Tryd.isAgg9 rfl)) rfl ?_
  refine Mx.gq (t := 28) rfl rfl rfl (by decide) rfl (Pu.qt (Pu.sEql rfl rfl)) rfl ?_
  refine Mx.p rfl (Pu.pickT rfl (by decide) rfl) rfl ?_
  refine Mx.p rfl (Pu.move rfl) rfl ?_
  refine Mx.gq (t := 34) rfl rfl rfl (Cf.aw_line (by assumption)) rfl (Qt.ld rfl (Cel.var 0 rfl) (o := 0) (off := 0) rfl (Cut.agg [.int .i64 1, .int .i64 0, .int .i64 4, .int .i64 20] Tryd.isAgg38 Tryd.sizeOf38 rfl rfl)) rfl ?_
  refine Mx.gq (t := 34) rfl rfl rfl (Cf.aw_line (by assumption)) rfl (Pu.qt (Pu.fieldAddr (off' := 13) Tryd.runUnderlying26 rfl Tryd.sizeOf24 rfl rfl rfl)) rfl ?_
  refine Mx.gq (t := 34) rfl rfl rfl (Cf.aw_line (by assumption)) rfl (Qt.ld rfl (Cel.var 2 rfl) (o := 0) (off := 13) rfl (Cut.one Tryd.isAgg24 rfl)) rfl ?_
  obtain ⟨e10, he10⟩ : ∃ x_, ([(⟨1, 0, 4, 20⟩ : Cl)])[0]? = some x_ := ⟨_, List.getElem?_eq_getElem (by first | decide | (rw [Cf.lines_len]; decide))⟩
  refine Mx.gq (t := 34) rfl rfl rfl (Cf.aw_line (by assumption)) rfl (Qt.idxM Tryd.runUnderlying24 Tryd.sizeOf38 rfl (Src.row 3 rfl) rfl (by first | decide | (rw [Cf.lines_len]; decide)) (by first | decide | (rw [Cf.lines_len]; decide))) rfl ?_
  refine Mx.gq (t := 34) rfl rfl rfl (Cf.aw_line (by assumption)) rfl (Qt.ld rfl (Cel.eltM (Src.row 3 rfl) he10) (o := (voff V1 + 0 * 4)) (off := 0) (by omega) (Cut.agg [.int .i64 e10.to, .int .i64 e10.tier, .int .i64 e10.weight, .int .i64 e10.most] Tryd.isAgg38 Tryd.sizeOf38 rfl rfl)) rfl ?_
  refine Mx.gq (t := 34) rfl rfl rfl (Cf.aw_line (by assumption)) rfl (Pu.qt (Pu.eqlI [1, 0, 4, 20] [e10.to, e10.tier, e10.weight, e10.most] Tryd.underlying38 Tryd.stoodInHeld38 Tryd.eqGuardType38 (fint38 Tryd.underlying38) rfl rfl rfl rfl)) rfl ?_
  refine Mx.p rfl (Pu.pickT rfl (Cf.aw_line (by assumption)) rfl) rfl ?_
  refine Mx.p rfl (Pu.move rfl) rfl ?_
  refine Mx.gq (t := 42) rfl rfl rfl (by have h_ := (by assumption : [(⟨1, 0, 4, 20⟩ : Cl)][0]? = some _); cases h_; rfl) rfl (Pu.qt (Pu.move rfl)) rfl ?_
  refine Mx.p rfl (Pu.pickT rfl (by have h_ := (by assumption : [(⟨1, 0, 4, 20⟩ : Cl)][0]? = some _); cases h_; rfl) rfl) rfl ?_
  refine Mx.p rfl (Pu.move rfl) rfl ?_
  refine Mx.gq (t := 45) rfl rfl rfl rfl rfl (Qt.ld rfl (Cel.var 2 rfl) (o := 0) (off := 0) rfl (Cut.agg [.int .i64 2, .int .i64 8, .int .i64 10, .int .i64 1, .int .i64 9, .int .i64 50, .int .i64 1, .int .i64 4, .int .i64 10, .int .i64 5, .int .i64 1, .int .i64 3, .int .i64 2, V1] Tryd.isAgg26 Tryd.sizeOf26 rfl rfl)) rfl ?_
  refine Mx.gl (t := 45) rfl rfl rfl rfl rfl (Lo.call [.agg #[.int .i64 2, .int .i64 8, .int .i64 10, .int .i64 1, .int .i64 9, .int .i64 50, .int .i64 1, .int .i64 4, .int .i64 10, .int .i64 5, .int .i64 1, .int .i64 3, .int .i64 2, V1]] (by exact Tryd.call21) rfl (cf_Required 2 8 10 1 9 50 1 4 10 5 1 3 2 V1 ([(⟨1, 0, 4, 20⟩ : Cl)]) (by decide)) [] [0, 1, 2, 3] (by decide) rfl [var g6 [.int .i64 1, .int .i64 0, .int .i64 4, .int .i64 20] 38, row v4 9 1 ((Cf.lines [2, 8, 10, 1, 9, 50, 1, 4, 10, 5, 1, 3, 2] ([(⟨1, 0, 4, 20⟩ : Cl)])).map encS), var g3 [.int .i64 2, .int .i64 8, .int .i64 10, .int .i64 1, .int .i64 9, .int .i64 50, .int .i64 1, .int .i64 4, .int .i64 10, .int .i64 5, .int .i64 1, .int .i64 3, .int .i64 2, V1] 26, row V1 38 4 (([(⟨1, 0, 4, 20⟩ : Cl)]).map Cl.cells)] rfl (RoOk.of 3 rfl row_rd [] (by decide) rfl RoOk.nil)) rfl ?_
  rintro v11 _ ⟨_, rfl, rfl⟩
  refine MxK.go [0, 1, 2, 3, 4] [1, 2, 3, 4] [row v11 38 4 ((([(⟨1, 0, 4, 20⟩ : Cl)]).filter (fun c => decide (c.tier = 0))).map Cl.cells), var g6 [.int .i64 1, .int .i64 0, .int .i64 4, .int .i64 20] 38, row v4 9 1 ((Cf.lines [2, 8, 10, 1, 9, 50, 1, 4, 10, 5, 1, 3, 2] ([(⟨1, 0, 4, 20⟩ : Cl)])).map encS), var g3 [.int .i64 2, .int .i64 8, .int .i64 10, .int .i64 1, .int .i64 9, .int .i64 50, .int .i64 1, .int .i64 4, .int .i64 10, .int .i64 5, .int .i64 1, .int .i64 3, .int .i64 2, V1] 26, row V1 38 4 (([(⟨1, 0, 4, 20⟩ : Cl)]).map Cl.cells)] (by decide) rfl (by decide) rfl ?_
  refine Mx.gq (t := 45) rfl rfl rfl rfl rfl (Qt.lenM Tryd.runUnderlying24 rfl (Src.row 0 rfl)) rfl ?_
  refine Mx.gq (t := 45) rfl rfl rfl rfl rfl (Pu.qt (Pu.eql rfl rfl)) rfl ?_
  refine Mx.p rfl (Pu.pickT rfl rfl rfl) rfl ?_
  refine Mx.p rfl (Pu.assign rfl) rfl ?_
  refine Mx.nil ?_
  exact J.ret (Fin.ret (rs := [.tmp 0]) rfl [_] ⟨rfl, trivial⟩ [] (by decide) [] rfl ⟨rfl, rfl⟩)

end Go.Proofs.YtilcmkegbmppnaaDoor
