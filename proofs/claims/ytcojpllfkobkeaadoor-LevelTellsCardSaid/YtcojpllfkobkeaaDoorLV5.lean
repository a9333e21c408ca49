/-
  Walks, printed by a program of mine (lk.py): each function meets its contract.
-/
import Derived.KernelRfl
import Derived.Test.YtcojpllfkobkeaaDoorLV4
namespace Go.Proofs.YtcojpllfkobkeaaDoor
open Go Go.LK
set_option linter.unusedSimpArgs false

set_option maxRecDepth 100000 in
theorem law08_levelTells (b c x y : Int) : Tri Tryd.prog 3 #[.agg #[.int .i64 b, .int .i64 c], .int .i64 x, .int .i64 y] [libW] [] (fun v L' => v = .bool true ∧ L' = []) := by
  refine Tri.enter (args := [.agg #[.int .i64 b, .int .i64 c], .int .i64 x, .int .i64 y]) (body := _) 143 Tryd.func3 rfl Tryd.ntmps3 rfl ?_
  intro w0
  refine J.seq ?_
  refine J.region ?_
  refine O.l (Lo.box [.int .i64 b, .int .i64 c] rfl rfl) rfl ?_
  rintro _ _ ⟨g1, rfl, rfl⟩
  refine O.p (Pu.assign rfl) rfl ?_
  refine O.nil ?_
  refine J.seq ?_
  refine J.region ?_
  refine O.p (Pu.indexAddrK 0 Tryd.runUnderlying22 Tryd.sizeOf3 rfl rfl (by decide) (by decide) rfl) rfl ?_
  refine O.q (Qt.ld rfl (Cel.var 0 rfl) (o := 0) (off := 0) rfl (Cut.one Tryd.isAgg3 rfl)) rfl ?_
  refine O.p (Pu.indexAddrK 1 Tryd.runUnderlying22 Tryd.sizeOf3 rfl rfl (by decide) (by decide) rfl) rfl ?_
  refine O.q (Qt.ld rfl (Cel.var 0 rfl) (o := 0) (off := 1) rfl (Cut.one Tryd.isAgg3 rfl)) rfl ?_
  refine O.l (Lo.call [.int .i64 b, .int .i64 c] (by exact Tryd.call6) rfl (lv_New b c) [] [0] (by decide) rfl _ rfl RoOk.nil) rfl ?_
  rintro _ _ ⟨_, ⟨rfl, rfl⟩, rfl⟩
  refine O.p (Pu.move rfl) rfl ?_
  refine O.p (Pu.extract rfl rfl) rfl ?_
  refine O.p (Pu.extract rfl rfl) rfl ?_
  refine O.l (Lo.alloc [.int .i64 0, .int .i64 0] (by exact Tryd.zeroValue26) rfl) rfl ?_
  rintro _ _ ⟨g3, rfl, rfl⟩
  refine O.l0 (Lo.store 0 (vs := [.int .i64 ((Lv.new b c).1), .int .i64 ((Lv.new b c).2.1)]) [.int .i64 ((Lv.new b c).1), .int .i64 ((Lv.new b c).2.1)] rfl rfl rfl (by exact Tryd.sizeOf26) rfl rfl rfl rfl rfl) ?_
  rintro _ _ rfl
  refine O.p (Pu.assign rfl) rfl ?_
  refine O.nil ?_
  refine J.seq ?_
  refine J.seq ?_
  refine J.region ?_
  refine O.p (Pu.indexAddrK 0 Tryd.runUnderlying22 Tryd.sizeOf3 rfl rfl (by decide) (by decide) rfl) rfl ?_
  refine O.q (Qt.ld rfl (Cel.var 1 rfl) (o := 0) (off := 0) rfl (Cut.one Tryd.isAgg3 rfl)) rfl ?_
  refine O.p (Pu.indexAddrK 1 Tryd.runUnderlying22 Tryd.sizeOf3 rfl rfl (by decide) (by decide) rfl) rfl ?_
  refine O.q (Qt.ld rfl (Cel.var 1 rfl) (o := 0) (off := 1) rfl (Cut.one Tryd.isAgg3 rfl)) rfl ?_
  refine O.l (Lo.call [.int .i64 b, .int .i64 c] (by exact Tryd.call7) rfl (r08_Right b c) [] [0, 1] (by decide) rfl _ rfl RoOk.nil) rfl ?_
  rintro _ _ ⟨_, ⟨rfl, rfl⟩, rfl⟩
  refine O.p (Pu.not rfl) rfl ?_
  refine O.nil ?_
  refine J.cond rfl (fun h5 => ?_) (fun h5 => ?_)
  ·
    have h6 : (Lv.right b c) = false := not_flip h5
    refine J.seq ?_
    refine J.region ?_
    refine O.q (Qt.ld rfl (Cel.var 0 rfl) (o := 0) (off := 0) rfl (Cut.agg [.int .i64 ((Lv.new b c).1), .int .i64 ((Lv.new b c).2.1)] Tryd.isAgg26 Tryd.sizeOf26 rfl rfl)) rfl ?_
    refine O.l (Lo.call [.agg #[.int .i64 ((Lv.new b c).1), .int .i64 ((Lv.new b c).2.1)], .int .i64 0, .int .i64 0] (by exact Tryd.call8) rfl (lv_Of ((Lv.new b c).1) ((Lv.new b c).2.1) 0 0 (by exact Lv.new_ok)) [] [0, 1] (by decide) rfl _ rfl RoOk.nil) rfl ?_
    rintro _ _ ⟨_, ⟨rfl, rfl⟩, rfl⟩
    refine O.p (Pu.move rfl) rfl ?_
    refine O.p (Pu.extract rfl rfl) rfl ?_
    refine O.p (Pu.extract rfl rfl) rfl ?_
    refine O.p (Pu.assign rfl) rfl ?_
    refine O.p (Pu.assign rfl) rfl ?_
    refine O.nil ?_
    refine J.seq ?_
    refine J.region ?_
    refine O.q (Qt.ld rfl (Cel.var 0 rfl) (o := 0) (off := 0) rfl (Cut.agg [.int .i64 ((Lv.new b c).1), .int .i64 ((Lv.new b c).2.1)] Tryd.isAgg26 Tryd.sizeOf26 rfl rfl)) rfl ?_
    refine O.l (Lo.call [.agg #[.int .i64 ((Lv.new b c).1), .int .i64 ((Lv.new b c).2.1)], .int .i64 0] (by exact Tryd.call9) rfl (lv_Split ((Lv.new b c).1) ((Lv.new b c).2.1) 0 (by exact Lv.new_ok)) [] [0, 1] (by decide) rfl _ rfl RoOk.nil) rfl ?_
    rintro _ _ ⟨_, ⟨rfl, rfl⟩, rfl⟩
    refine O.p (Pu.move rfl) rfl ?_
    refine O.p (Pu.extract rfl rfl) rfl ?_
    refine O.p (Pu.extract rfl rfl) rfl ?_
    refine O.p (Pu.extract rfl rfl) rfl ?_
    refine O.p (Pu.assign rfl) rfl ?_
    refine O.p (Pu.assign rfl) rfl ?_
    refine O.p (Pu.assign rfl) rfl ?_
    refine O.nil ?_
    refine J.seq ?_
    refine J.region ?_
    refine O.p (Pu.move rfl) rfl ?_
    refine O.p (Pu.eql rfl rfl) rfl ?_
    refine O.p (Pu.move rfl) rfl ?_
    refine O.gq (t := 51) rfl rfl (decide_eq_true (by first | (rw [Lv.new_none (by assumption)]; done) | (rw [Lv.new_none (by assumption)]; rfl))) rfl (Pu.qt (Pu.fieldAddr (off' := 0) Tryd.runUnderlying26 rfl Tryd.sizeOf24 rfl rfl rfl)) rfl ?_
    refine O.gq (t := 51) rfl rfl (decide_eq_true (by first | (rw [Lv.new_none (by assumption)]; done) | (rw [Lv.new_none (by assumption)]; rfl))) rfl (Qt.ld rfl (Cel.var 0 rfl) (o := 0) (off := 0) rfl (Cut.agg [.int .i64 ((Lv.new b c).1), .int .i64 ((Lv.new b c).2.1)] Tryd.isAgg24 Tryd.sizeOf24 rfl rfl)) rfl ?_
    refine O.gl (t := 51) rfl rfl (decide_eq_true (by first | (rw [Lv.new_none (by assumption)]; done) | (rw [Lv.new_none (by assumption)]; rfl))) rfl (Lo.call [.agg #[.int .i64 ((Lv.new b c).1), .int .i64 ((Lv.new b c).2.1)]] (by exact Tryd.call10) rfl (lv_Levels ((Lv.new b c).1) ((Lv.new b c).2.1) (by exact Lv.new_ok)) [] [0, 1] (by decide) rfl _ rfl RoOk.nil) rfl ?_
    rintro _ _ ⟨_, ⟨rfl, rfl⟩, rfl⟩
    refine O.gq (t := 51) rfl rfl (decide_eq_true (by first | (rw [Lv.new_none (by assumption)]; done) | (rw [Lv.new_none (by assumption)]; rfl))) rfl (Pu.qt (Pu.eql rfl rfl)) rfl ?_
    refine O.p (Pu.pickT rfl (decide_eq_true (by first | (rw [Lv.new_none (by assumption)]; done) | (rw [Lv.new_none (by assumption)]; rfl))) rfl) rfl ?_
    refine O.p (Pu.move rfl) rfl ?_
    refine O.gq (t := 57) rfl rfl (decide_eq_true (by first | (rw [Lv.new_none (by assumption)]; done) | (rw [Lv.new_none (by assumption)]; rfl))) rfl (Pu.qt (Pu.move rfl)) rfl ?_
    refine O.gq (t := 57) rfl rfl (decide_eq_true (by first | (rw [Lv.new_none (by assumption)]; done) | (rw [Lv.new_none (by assumption)]; rfl))) rfl (Pu.qt (Pu.eql rfl rfl)) rfl ?_
    refine O.p (Pu.pickT rfl (decide_eq_true (by first | (rw [Lv.new_none (by assumption)]; done) | (rw [Lv.new_none (by assumption)]; rfl))) rfl) rfl ?_
    refine O.p (Pu.move rfl) rfl ?_
    refine O.gq (t := 61) rfl rfl (decide_eq_true (by first | (rw [Lv.new_none (by assumption)]; done) | (rw [Lv.new_none (by assumption)]; rfl))) rfl (Pu.qt (Pu.move rfl)) rfl ?_
    refine O.gq (t := 61) rfl rfl (decide_eq_true (by first | (rw [Lv.new_none (by assumption)]; done) | (rw [Lv.new_none (by assumption)]; rfl))) rfl (Pu.qt (Pu.eql rfl rfl)) rfl ?_
    refine O.p (Pu.pickT rfl (decide_eq_true (by first | (rw [Lv.new_none (by assumption)]; done) | (rw [Lv.new_none (by assumption)]; rfl))) rfl) rfl ?_
    refine O.p (Pu.move rfl) rfl ?_
    refine O.gl (t := 65) rfl rfl (decide_eq_true (by first | (rw [Lv.new_none (by assumption)]; done) | (rw [Lv.new_none (by assumption)]; rfl))) rfl (Lo.call [] (by exact Tryd.call11) rfl law08_awake [] [0, 1] (by decide) rfl _ rfl (RoOk.ro 0 rfl [] rfl RoOk.nil)) rfl ?_
    rintro _ _ ⟨_, ⟨rfl, rfl⟩, rfl⟩
    refine O.p (Pu.pickT rfl (decide_eq_true (by first | (rw [Lv.new_none (by assumption)]; done) | (rw [Lv.new_none (by assumption)]; rfl))) rfl) rfl ?_
    refine O.p (Pu.assign rfl) rfl ?_
    refine O.nil ?_
    exact J.ret (Fin.ret (rs := [.tmp 6]) rfl [_] ⟨rfl, trivial⟩ [] (by decide) [] rfl ⟨rfl, rfl⟩)
  ·
    have h11 : (Lv.right b c) = true := not_flip h5
    refine J.skip ?_
    refine J.seq ?_
    refine J.region ?_
    refine O.q (Qt.ld rfl (Cel.var 0 rfl) (o := 0) (off := 0) rfl (Cut.agg [.int .i64 ((Lv.new b c).1), .int .i64 ((Lv.new b c).2.1)] Tryd.isAgg26 Tryd.sizeOf26 rfl rfl)) rfl ?_
    refine O.p (Pu.move rfl) rfl ?_
    refine O.p (Pu.move rfl) rfl ?_
    refine O.l (Lo.call [.agg #[.int .i64 ((Lv.new b c).1), .int .i64 ((Lv.new b c).2.1)], .int .i64 x, .int .i64 y] (by exact Tryd.call8) rfl (lv_Of ((Lv.new b c).1) ((Lv.new b c).2.1) x y (by exact Lv.new_ok)) [] [0, 1] (by decide) rfl _ rfl RoOk.nil) rfl ?_
    rintro _ _ ⟨_, ⟨rfl, rfl⟩, rfl⟩
    refine O.p (Pu.move rfl) rfl ?_
    refine O.p (Pu.extract rfl rfl) rfl ?_
    refine O.p (Pu.extract rfl rfl) rfl ?_
    refine O.p (Pu.assign rfl) rfl ?_
    refine O.p (Pu.assign rfl) rfl ?_
    refine O.nil ?_
    refine J.seq ?_
    refine J.region ?_
    refine O.p (Pu.indexAddrK 0 Tryd.runUnderlying22 Tryd.sizeOf3 rfl rfl (by decide) (by decide) rfl) rfl ?_
    refine O.q (Qt.ld rfl (Cel.var 1 rfl) (o := 0) (off := 0) rfl (Cut.one Tryd.isAgg3 rfl)) rfl ?_
    refine O.p (Pu.indexAddrK 1 Tryd.runUnderlying22 Tryd.sizeOf3 rfl rfl (by decide) (by decide) rfl) rfl ?_
    refine O.q (Qt.ld rfl (Cel.var 1 rfl) (o := 0) (off := 1) rfl (Cut.one Tryd.isAgg3 rfl)) rfl ?_
    refine O.p (Pu.move rfl) rfl ?_
    refine O.p (Pu.move rfl) rfl ?_
    refine O.l (Lo.call [.int .i64 b, .int .i64 c, .int .i64 x, .int .i64 y] (by exact Tryd.call12) rfl (r08_Of b c x y (by exact Lv.right_iff.1 (by assumption))) [] [0, 1] (by decide) rfl _ rfl RoOk.nil) rfl ?_
    rintro _ _ ⟨_, ⟨rfl, rfl⟩, rfl⟩
    refine O.p (Pu.move rfl) rfl ?_
    refine O.p (Pu.extract rfl rfl) rfl ?_
    refine O.p (Pu.extract rfl rfl) rfl ?_
    refine O.p (Pu.assign rfl) rfl ?_
    refine O.p (Pu.assign rfl) rfl ?_
    refine O.nil ?_
    refine J.seq ?_
    refine J.region ?_
    refine O.q (Qt.ld rfl (Cel.var 0 rfl) (o := 0) (off := 0) rfl (Cut.agg [.int .i64 ((Lv.new b c).1), .int .i64 ((Lv.new b c).2.1)] Tryd.isAgg26 Tryd.sizeOf26 rfl rfl)) rfl ?_
    refine O.p (Pu.move rfl) rfl ?_
    refine O.l (Lo.call [.agg #[.int .i64 ((Lv.new b c).1), .int .i64 ((Lv.new b c).2.1)], .int .i64 x] (by exact Tryd.call9) rfl (lv_Split ((Lv.new b c).1) ((Lv.new b c).2.1) x (by exact Lv.new_ok)) [] [0, 1] (by decide) rfl _ rfl RoOk.nil) rfl ?_
    rintro _ _ ⟨_, ⟨rfl, rfl⟩, rfl⟩
    refine O.p (Pu.move rfl) rfl ?_
    refine O.p (Pu.extract rfl rfl) rfl ?_
    refine O.p (Pu.extract rfl rfl) rfl ?_
    refine O.p (Pu.extract rfl rfl) rfl ?_
    refine O.p (Pu.assign rfl) rfl ?_
    refine O.p (Pu.assign rfl) rfl ?_
    refine O.p (Pu.assign rfl) rfl ?_
    refine O.nil ?_
    refine J.seq ?_
    refine J.region ?_
    refine O.p (Pu.indexAddrK 0 Tryd.runUnderlying22 Tryd.sizeOf3 rfl rfl (by decide) (by decide) rfl) rfl ?_
    refine O.q (Qt.ld rfl (Cel.var 1 rfl) (o := 0) (off := 0) rfl (Cut.one Tryd.isAgg3 rfl)) rfl ?_
    refine O.p (Pu.indexAddrK 1 Tryd.runUnderlying22 Tryd.sizeOf3 rfl rfl (by decide) (by decide) rfl) rfl ?_
    refine O.q (Qt.ld rfl (Cel.var 1 rfl) (o := 0) (off := 1) rfl (Cut.one Tryd.isAgg3 rfl)) rfl ?_
    refine O.p (Pu.move rfl) rfl ?_
    refine O.l (Lo.call [.int .i64 b, .int .i64 c, .int .i64 x] (by exact Tryd.call13) rfl (r08_Split b c x (by exact Lv.right_iff.1 (by assumption))) [] [0, 1] (by decide) rfl _ rfl RoOk.nil) rfl ?_
    rintro _ _ ⟨_, ⟨rfl, rfl⟩, rfl⟩
    refine O.p (Pu.move rfl) rfl ?_
    refine O.p (Pu.extract rfl rfl) rfl ?_
    refine O.p (Pu.extract rfl rfl) rfl ?_
    refine O.p (Pu.extract rfl rfl) rfl ?_
    refine O.p (Pu.assign rfl) rfl ?_
    refine O.p (Pu.assign rfl) rfl ?_
    refine O.p (Pu.assign rfl) rfl ?_
    refine O.nil ?_
    refine J.seq ?_
    refine J.drawMix [(0, false), (1, false), (2, false), (3, false), (4, false), (5, false), (6, false), (7, false), (8, false), (9, false), (10, false), (11, false), (12, false), (13, false), (14, false), (15, false), (16, false), (17, false), (18, false), (19, false), (20, false), (21, false), (22, false), (23, false), (24, false), (25, false), (26, false), (27, false), (28, false), (29, false), (30, false), (31, false), (32, false), (33, false), (34, false), (35, false), (36, false), (37, false), (38, false), (39, false), (40, false), (41, false)] [0, 1] [var g3 [.int .i64 ((Lv.new b c).1), .int .i64 ((Lv.new b c).2.1)] 26, var g1 [.int .i64 b, .int .i64 c] 22] Tryd.mixed (by kernel_rfl) (by decide) rfl ?_
    refine Mx.p rfl (Pu.move rfl) rfl ?_
    refine Mx.p rfl (Pu.eql rfl rfl) rfl ?_
    refine Mx.p rfl (Pu.move rfl) rfl ?_
    refine Mx.gq (t := 104) rfl rfl rfl (decide_eq_true (by first | (rw [Lv.new_grid (by assumption)]; done) | (rw [Lv.new_grid (by assumption)]; rfl))) rfl (Pu.qt (Pu.fieldAddr (off' := 0) Tryd.runUnderlying26 rfl Tryd.sizeOf24 rfl rfl rfl)) rfl ?_
    refine Mx.gq (t := 104) rfl rfl rfl (decide_eq_true (by first | (rw [Lv.new_grid (by assumption)]; done) | (rw [Lv.new_grid (by assumption)]; rfl))) rfl (Qt.ld rfl (Cel.var 0 rfl) (o := 0) (off := 0) rfl (Cut.agg [.int .i64 ((Lv.new b c).1), .int .i64 ((Lv.new b c).2.1)] Tryd.isAgg24 Tryd.sizeOf24 rfl rfl)) rfl ?_
    refine Mx.gcall (vs := [.agg #[.int .i64 ((Lv.new b c).1), .int .i64 ((Lv.new b c).2.1)]]) (caps := []) (t := 104) rfl rfl rfl (decide_eq_true (by first | (rw [Lv.new_grid (by assumption)]; done) | (rw [Lv.new_grid (by assumption)]; rfl))) rfl (by exact Tryd.call10) rfl rfl (lv_Levels ((Lv.new b c).1) ((Lv.new b c).2.1) (by exact Lv.new_ok)) (fun _ _ h => h) RoOk.nil rfl ?_
    refine Mx.gq (t := 104) rfl rfl rfl (decide_eq_true (by first | (rw [Lv.new_grid (by assumption)]; done) | (rw [Lv.new_grid (by assumption)]; rfl))) rfl (Pu.qt (Pu.indexAddrK 0 Tryd.runUnderlying22 Tryd.sizeOf3 rfl rfl (by decide) (by decide) rfl)) rfl ?_
    refine Mx.gq (t := 104) rfl rfl rfl (decide_eq_true (by first | (rw [Lv.new_grid (by assumption)]; done) | (rw [Lv.new_grid (by assumption)]; rfl))) rfl (Qt.ld rfl (Cel.var 1 rfl) (o := 0) (off := 0) rfl (Cut.one Tryd.isAgg3 rfl)) rfl ?_
    refine Mx.gq (t := 104) rfl rfl rfl (decide_eq_true (by first | (rw [Lv.new_grid (by assumption)]; done) | (rw [Lv.new_grid (by assumption)]; rfl))) rfl (Pu.qt (Pu.indexAddrK 1 Tryd.runUnderlying22 Tryd.sizeOf3 rfl rfl (by decide) (by decide) rfl)) rfl ?_
    refine Mx.gq (t := 104) rfl rfl rfl (decide_eq_true (by first | (rw [Lv.new_grid (by assumption)]; done) | (rw [Lv.new_grid (by assumption)]; rfl))) rfl (Qt.ld rfl (Cel.var 1 rfl) (o := 0) (off := 1) rfl (Cut.one Tryd.isAgg3 rfl)) rfl ?_
    refine Mx.gq (t := 104) rfl rfl rfl (decide_eq_true (by first | (rw [Lv.new_grid (by assumption)]; done) | (rw [Lv.new_grid (by assumption)]; rfl))) rfl (Pu.qt (Pu.mul' rfl rfl (by have h_ := (Lv.right_iff.1 (by assumption : Lv.right b c = true)).mul; omega))) rfl ?_
    refine Mx.gq (t := 104) rfl rfl rfl (decide_eq_true (by first | (rw [Lv.new_grid (by assumption)]; done) | (rw [Lv.new_grid (by assumption)]; rfl))) rfl (Pu.qt (Pu.eql rfl rfl)) rfl ?_
    refine Mx.p rfl (Pu.pickT rfl (decide_eq_true (by first | (rw [Lv.new_grid (by assumption)]; done) | (rw [Lv.new_grid (by assumption)]; rfl))) rfl) rfl ?_
    refine Mx.p rfl (Pu.move rfl) rfl ?_
    refine Mx.gq (t := 115) rfl rfl rfl (decide_eq_true (by first | (rw [Lv.new_grid (by assumption)]; done) | (rw [Lv.new_grid (by assumption)]; rfl))) rfl (Pu.qt (Pu.move rfl)) rfl ?_
    refine Mx.gq (t := 115) rfl rfl rfl (decide_eq_true (by first | (rw [Lv.new_grid (by assumption)]; done) | (rw [Lv.new_grid (by assumption)]; rfl))) rfl (Pu.qt (Pu.move rfl)) rfl ?_
    refine Mx.gq (t := 115) rfl rfl rfl (decide_eq_true (by first | (rw [Lv.new_grid (by assumption)]; done) | (rw [Lv.new_grid (by assumption)]; rfl))) rfl (Pu.qt (Pu.eql rfl rfl)) rfl ?_
    refine Mx.p rfl (Pu.pickT rfl (decide_eq_true (by first | (rw [Lv.new_grid (by assumption)]; done) | (rw [Lv.new_grid (by assumption)]; rfl))) rfl) rfl ?_
    refine Mx.p rfl (Pu.move rfl) rfl ?_
    refine Mx.gq (t := 120) rfl rfl rfl (decide_eq_true (by first | (rw [Lv.new_grid (by assumption)]; done) | (rw [Lv.new_grid (by assumption)]; rfl))) rfl (Pu.qt (Pu.move rfl)) rfl ?_
    refine Mx.gq (t := 120) rfl rfl rfl (decide_eq_true (by first | (rw [Lv.new_grid (by assumption)]; done) | (rw [Lv.new_grid (by assumption)]; rfl))) rfl (Pu.qt (Pu.move rfl)) rfl ?_
    refine Mx.gq (t := 120) rfl rfl rfl (decide_eq_true (by first | (rw [Lv.new_grid (by assumption)]; done) | (rw [Lv.new_grid (by assumption)]; rfl))) rfl (Pu.qt (Pu.eql rfl rfl)) rfl ?_
    refine Mx.p rfl (Pu.pickT rfl (decide_eq_true (by first | (rw [Lv.new_grid (by assumption)]; done) | (rw [Lv.new_grid (by assumption)]; rfl))) rfl) rfl ?_
    refine Mx.p rfl (Pu.move rfl) rfl ?_
    refine Mx.gq (t := 125) rfl rfl rfl (decide_eq_true (by first | (rw [Lv.new_grid (by assumption)]; done) | (rw [Lv.new_grid (by assumption)]; rfl))) rfl (Pu.qt (Pu.move rfl)) rfl ?_
    refine Mx.gq (t := 125) rfl rfl rfl (decide_eq_true (by first | (rw [Lv.new_grid (by assumption)]; done) | (rw [Lv.new_grid (by assumption)]; rfl))) rfl (Pu.qt (Pu.move rfl)) rfl ?_
    refine Mx.gq (t := 125) rfl rfl rfl (decide_eq_true (by first | (rw [Lv.new_grid (by assumption)]; done) | (rw [Lv.new_grid (by assumption)]; rfl))) rfl (Pu.qt (Pu.eql rfl rfl)) rfl ?_
    refine Mx.p rfl (Pu.pickT rfl (decide_eq_true (by first | (rw [Lv.new_grid (by assumption)]; done) | (rw [Lv.new_grid (by assumption)]; rfl))) rfl) rfl ?_
    refine Mx.p rfl (Pu.move rfl) rfl ?_
    refine Mx.gq (t := 130) rfl rfl rfl (decide_eq_true (by first | (rw [Lv.new_grid (by assumption)]; done) | (rw [Lv.new_grid (by assumption)]; rfl))) rfl (Pu.qt (Pu.move rfl)) rfl ?_
    refine Mx.gq (t := 130) rfl rfl rfl (decide_eq_true (by first | (rw [Lv.new_grid (by assumption)]; done) | (rw [Lv.new_grid (by assumption)]; rfl))) rfl (Pu.qt (Pu.move rfl)) rfl ?_
    refine Mx.gq (t := 130) rfl rfl rfl (decide_eq_true (by first | (rw [Lv.new_grid (by assumption)]; done) | (rw [Lv.new_grid (by assumption)]; rfl))) rfl (Pu.qt (Pu.eql rfl rfl)) rfl ?_
    refine Mx.p rfl (Pu.pickT rfl (decide_eq_true (by first | (rw [Lv.new_grid (by assumption)]; done) | (rw [Lv.new_grid (by assumption)]; rfl))) rfl) rfl ?_
    refine Mx.p rfl (Pu.move rfl) rfl ?_
    refine Mx.gq (t := 135) rfl rfl rfl (decide_eq_true (by first | (rw [Lv.new_grid (by assumption)]; done) | (rw [Lv.new_grid (by assumption)]; rfl))) rfl (Pu.qt (Pu.move rfl)) rfl ?_
    refine Mx.gq (t := 135) rfl rfl rfl (decide_eq_true (by first | (rw [Lv.new_grid (by assumption)]; done) | (rw [Lv.new_grid (by assumption)]; rfl))) rfl (Pu.qt (Pu.move rfl)) rfl ?_
    refine Mx.gq (t := 135) rfl rfl rfl (decide_eq_true (by first | (rw [Lv.new_grid (by assumption)]; done) | (rw [Lv.new_grid (by assumption)]; rfl))) rfl (Pu.qt (Pu.eql rfl rfl)) rfl ?_
    refine Mx.p rfl (Pu.pickT rfl (decide_eq_true (by first | (rw [Lv.new_grid (by assumption)]; done) | (rw [Lv.new_grid (by assumption)]; rfl))) rfl) rfl ?_
    refine Mx.p rfl (Pu.move rfl) rfl ?_
    refine Mx.gcall (vs := []) (caps := []) (t := 140) rfl rfl rfl (decide_eq_true (by first | (rw [Lv.new_grid (by assumption)]; done) | (rw [Lv.new_grid (by assumption)]; rfl))) rfl (by exact Tryd.call11) rfl rfl law08_awake (fun _ _ h => h) (RoOk.ro 0 rfl [] rfl RoOk.nil) rfl ?_
    refine Mx.p rfl (Pu.pickT rfl (decide_eq_true (by first | (rw [Lv.new_grid (by assumption)]; done) | (rw [Lv.new_grid (by assumption)]; rfl))) rfl) rfl ?_
    refine Mx.p rfl (Pu.assign rfl) rfl ?_
    refine Mx.nil ?_
    exact J.ret (Fin.ret (rs := [.tmp 6]) rfl [_] ⟨rfl, trivial⟩ [] (by decide) [] rfl ⟨rfl, rfl⟩)

end Go.Proofs.YtcojpllfkobkeaaDoor
