/-
  Walks, printed by a program of mine (lk.py): each function meets its contract.
-/
import Derived.KernelRfl
import Derived.Test.YtcojpllfkobkeaaDoorLV9
import Derived.Test.YtcojpllfkobkeaaDoorLV4
namespace Go.Proofs.YtcojpllfkobkeaaDoor
open Go Go.LK
set_option linter.unusedSimpArgs false

set_option maxRecDepth 100000 in
theorem law08_levelTexts (b c n : Int) (s : List UInt8) : Tri Tryd.prog 4 #[.agg #[.int .i64 b, .int .i64 c], .int .i64 n, str s] [libW] [] (fun v L' => v = .bool true ∧ L' = []) := by
  refine Tri.enter (args := [.agg #[.int .i64 b, .int .i64 c], .int .i64 n, str s]) (body := _) 88 Tryd.func4 rfl Tryd.ntmps4 rfl ?_
  intro w0
  refine J.seq ?_
  refine J.region ?_
  refine O.l (Lo.box [.int .i64 b, .int .i64 c] rfl rfl) rfl ?_
  rintro _ _ ⟨g1, rfl, rfl⟩
  refine O.p (Pu.assign rfl) rfl ?_
  refine O.nil ?_
  refine J.seq ?_
  refine J.seq ?_
  refine J.region ?_
  refine O.p (Pu.move rfl) rfl ?_
  refine O.p (Pu.sLen Tryd.runUnderlying9 rfl) rfl ?_
  refine O.p (Pu.gtr rfl rfl) rfl ?_
  refine O.p (Pu.move rfl) rfl ?_
  refine by_bool (decide (60 < (s.length : Int))) (fun h2 => ?_) (fun h2 => ?_)
  ·
    have p3 := of_decide_eq_true h2
    refine O.gskip (t := 20) rfl rfl (no_bool (by rw [h2]; decide)) rfl rfl ?_
    refine O.gskip (t := 20) rfl rfl (no_bool (by rw [h2]; decide)) rfl rfl ?_
    refine O.gskip (t := 20) rfl rfl (no_bool (by rw [h2]; decide)) rfl rfl ?_
    refine O.gskip (t := 20) rfl rfl (no_bool (by rw [h2]; decide)) rfl rfl ?_
    refine O.gskip (t := 20) rfl rfl (no_bool (by rw [h2]; decide)) rfl rfl ?_
    refine O.gskip (t := 20) rfl rfl (no_bool (by rw [h2]; decide)) rfl rfl ?_
    refine O.p (Pu.pickT rfl h2 rfl) rfl ?_
    refine O.nil ?_
    refine J.condT rfl rfl ?_
    refine J.seq ?_
    refine J.region ?_
    refine O.l (Lo.call [] (by exact Tryd.call11) rfl law08_awake [] [0] (by decide) rfl _ rfl (RoOk.ro 0 rfl [] rfl RoOk.nil)) rfl ?_
    rintro _ _ ⟨_, ⟨rfl, rfl⟩, rfl⟩
    refine O.p (Pu.assign rfl) rfl ?_
    refine O.nil ?_
    exact J.ret (Fin.ret (rs := [.tmp 6]) rfl [_] ⟨rfl, trivial⟩ [] (by decide) [] rfl ⟨rfl, rfl⟩)
  ·
    have p5 := of_decide_eq_false h2
    refine O.gq (t := 20) rfl rfl h2 rfl (Pu.qt (Pu.indexAddrK 0 Tryd.runUnderlying22 Tryd.sizeOf3 rfl rfl (by decide) (by decide) rfl)) rfl ?_
    refine O.gq (t := 20) rfl rfl h2 rfl (Qt.ld rfl (Cel.var 0 rfl) (o := 0) (off := 0) rfl (Cut.one Tryd.isAgg3 rfl)) rfl ?_
    refine O.gq (t := 20) rfl rfl h2 rfl (Pu.qt (Pu.indexAddrK 1 Tryd.runUnderlying22 Tryd.sizeOf3 rfl rfl (by decide) (by decide) rfl)) rfl ?_
    refine O.gq (t := 20) rfl rfl h2 rfl (Qt.ld rfl (Cel.var 0 rfl) (o := 0) (off := 1) rfl (Cut.one Tryd.isAgg3 rfl)) rfl ?_
    refine O.gl (t := 20) rfl rfl h2 rfl (Lo.call [.int .i64 b, .int .i64 c] (by exact Tryd.call7) rfl (r08_Right b c) [] [0] (by decide) rfl _ rfl RoOk.nil) rfl ?_
    rintro _ _ ⟨_, ⟨rfl, rfl⟩, rfl⟩
    refine O.gq (t := 20) rfl rfl h2 rfl (Pu.qt (Pu.not rfl)) rfl ?_
    refine O.p (Pu.pickF rfl h2 rfl) rfl ?_
    refine O.nil ?_
    refine J.cond rfl (fun h7 => ?_) (fun h7 => ?_)
    ·
      have h8 : (Lv.right b c) = false := not_flip h7
      refine J.seq ?_
      refine J.region ?_
      refine O.l (Lo.call [] (by exact Tryd.call11) rfl law08_awake [] [0] (by decide) rfl _ rfl (RoOk.ro 0 rfl [] rfl RoOk.nil)) rfl ?_
      rintro _ _ ⟨_, ⟨rfl, rfl⟩, rfl⟩
      refine O.p (Pu.assign rfl) rfl ?_
      refine O.nil ?_
      exact J.ret (Fin.ret (rs := [.tmp 6]) rfl [_] ⟨rfl, trivial⟩ [] (by decide) [] rfl ⟨rfl, rfl⟩)
    ·
      have h10 : (Lv.right b c) = true := not_flip h7
      refine J.skip ?_
      refine J.seq ?_
      refine J.region ?_
      refine O.p (Pu.indexAddrK 0 Tryd.runUnderlying22 Tryd.sizeOf3 rfl rfl (by decide) (by decide) rfl) rfl ?_
      refine O.q (Qt.ld rfl (Cel.var 0 rfl) (o := 0) (off := 0) rfl (Cut.one Tryd.isAgg3 rfl)) rfl ?_
      refine O.p (Pu.indexAddrK 1 Tryd.runUnderlying22 Tryd.sizeOf3 rfl rfl (by decide) (by decide) rfl) rfl ?_
      refine O.q (Qt.ld rfl (Cel.var 0 rfl) (o := 0) (off := 1) rfl (Cut.one Tryd.isAgg3 rfl)) rfl ?_
      refine O.l (Lo.call [.int .i64 b, .int .i64 c] (by exact Tryd.call6) rfl (lv_New b c) [] [0] (by decide) rfl _ rfl RoOk.nil) rfl ?_
      rintro _ _ ⟨_, ⟨rfl, rfl⟩, rfl⟩
      refine O.p (Pu.move rfl) rfl ?_
      refine O.p (Pu.extract rfl rfl) rfl ?_
      refine O.p (Pu.extract rfl rfl) rfl ?_
      refine O.l (Lo.alloc [.int .i64 0, .int .i64 0] (by exact Tryd.zeroValue26) rfl) rfl ?_
      rintro _ _ ⟨g12, rfl, rfl⟩
      refine O.l0 (Lo.store 0 (vs := [.int .i64 ((Lv.new b c).1), .int .i64 ((Lv.new b c).2.1)]) [.int .i64 ((Lv.new b c).1), .int .i64 ((Lv.new b c).2.1)] rfl rfl rfl (by exact Tryd.sizeOf26) rfl rfl rfl rfl rfl) ?_
      rintro _ _ rfl
      refine O.p (Pu.assign rfl) rfl ?_
      refine O.nil ?_
      refine J.seq ?_
      refine J.region ?_
      refine O.q (Qt.ld rfl (Cel.var 0 rfl) (o := 0) (off := 0) rfl (Cut.agg [.int .i64 ((Lv.new b c).1), .int .i64 ((Lv.new b c).2.1)] Tryd.isAgg26 Tryd.sizeOf26 rfl rfl)) rfl ?_
      refine O.p (Pu.move rfl) rfl ?_
      refine O.l (Lo.call [.agg #[.int .i64 ((Lv.new b c).1), .int .i64 ((Lv.new b c).2.1)], .int .i64 n] (by exact Tryd.call14) rfl (lv_Text ((Lv.new b c).1) ((Lv.new b c).2.1) n (by exact Lv.new_ok)) [] [0, 1] (by decide) rfl _ rfl (RoOk.ro 0 rfl [] rfl RoOk.nil)) rfl ?_
      rintro _ _ ⟨_, ⟨rfl, rfl⟩, rfl⟩
      refine O.p (Pu.move rfl) rfl ?_
      refine O.p (Pu.extract rfl rfl) rfl ?_
      refine O.p (Pu.extract rfl rfl) rfl ?_
      refine O.p (Pu.assign rfl) rfl ?_
      refine O.p (Pu.assign rfl) rfl ?_
      refine O.nil ?_
      refine J.seq ?_
      refine J.region ?_
      refine O.p (Pu.indexAddrK 0 Tryd.runUnderlying22 Tryd.sizeOf3 rfl rfl (by decide) (by decide) rfl) rfl ?_
      refine O.q (Qt.ld rfl (Cel.var 1 rfl) (o := 0) (off := 0) rfl (Cut.one Tryd.isAgg3 rfl)) rfl ?_
      refine O.p (Pu.indexAddrK 1 Tryd.runUnderlying22 Tryd.sizeOf3 rfl rfl (by decide) (by decide) rfl) rfl ?_
      refine O.q (Qt.ld rfl (Cel.var 1 rfl) (o := 0) (off := 1) rfl (Cut.one Tryd.isAgg3 rfl)) rfl ?_
      refine O.p (Pu.move rfl) rfl ?_
      refine O.l (Lo.call [.int .i64 b, .int .i64 c, .int .i64 n] (by exact Tryd.call15) rfl (r08_Text b c n (by exact Lv.right_iff.1 (by assumption))) [] [0, 1] (by decide) rfl _ rfl RoOk.nil) rfl ?_
      rintro _ _ ⟨_, ⟨rfl, rfl⟩, rfl⟩
      refine O.p (Pu.move rfl) rfl ?_
      refine O.p (Pu.extract rfl rfl) rfl ?_
      refine O.p (Pu.extract rfl rfl) rfl ?_
      refine O.p (Pu.assign rfl) rfl ?_
      refine O.p (Pu.assign rfl) rfl ?_
      refine O.nil ?_
      refine J.seq ?_
      refine J.region ?_
      refine O.q (Qt.ld rfl (Cel.var 0 rfl) (o := 0) (off := 0) rfl (Cut.agg [.int .i64 ((Lv.new b c).1), .int .i64 ((Lv.new b c).2.1)] Tryd.isAgg26 Tryd.sizeOf26 rfl rfl)) rfl ?_
      refine O.p (Pu.move rfl) rfl ?_
      refine O.l (Lo.call [.agg #[.int .i64 ((Lv.new b c).1), .int .i64 ((Lv.new b c).2.1)], str s] (by exact Tryd.call16) rfl (lv_Parse ((Lv.new b c).1) ((Lv.new b c).2.1) s (by exact Lv.new_ok) (by first | omega | (simp only [List.length_append, List.length_cons, List.length_nil, List.length_set]; omega))) [] [0, 1] (by decide) rfl _ rfl (RoOk.ro 0 rfl [] rfl RoOk.nil)) rfl ?_
      rintro _ _ ⟨_, ⟨rfl, rfl⟩, rfl⟩
      refine O.p (Pu.move rfl) rfl ?_
      refine O.p (Pu.extract rfl rfl) rfl ?_
      refine O.p (Pu.extract rfl rfl) rfl ?_
      refine O.p (Pu.assign rfl) rfl ?_
      refine O.p (Pu.assign rfl) rfl ?_
      refine O.nil ?_
      refine J.seq ?_
      refine J.region ?_
      refine O.p (Pu.indexAddrK 0 Tryd.runUnderlying22 Tryd.sizeOf3 rfl rfl (by decide) (by decide) rfl) rfl ?_
      refine O.q (Qt.ld rfl (Cel.var 1 rfl) (o := 0) (off := 0) rfl (Cut.one Tryd.isAgg3 rfl)) rfl ?_
      refine O.p (Pu.indexAddrK 1 Tryd.runUnderlying22 Tryd.sizeOf3 rfl rfl (by decide) (by decide) rfl) rfl ?_
      refine O.q (Qt.ld rfl (Cel.var 1 rfl) (o := 0) (off := 1) rfl (Cut.one Tryd.isAgg3 rfl)) rfl ?_
      refine O.p (Pu.move rfl) rfl ?_
      refine O.l (Lo.call [.int .i64 b, .int .i64 c, str s] (by exact Tryd.call17) rfl (r08_Parse b c s (by exact Lv.right_iff.1 (by assumption)) (by first | omega | (simp only [List.length_append, List.length_cons, List.length_nil, List.length_set]; omega))) [] [0, 1] (by decide) rfl _ rfl RoOk.nil) rfl ?_
      rintro _ _ ⟨_, ⟨rfl, rfl⟩, rfl⟩
      refine O.p (Pu.move rfl) rfl ?_
      refine O.p (Pu.extract rfl rfl) rfl ?_
      refine O.p (Pu.extract rfl rfl) rfl ?_
      refine O.p (Pu.assign rfl) rfl ?_
      refine O.p (Pu.assign rfl) rfl ?_
      refine O.nil ?_
      refine J.seq ?_
      refine J.region ?_
      refine O.p (Pu.move rfl) rfl ?_
      refine O.p (Pu.move rfl) rfl ?_
      refine O.p (Pu.sEql rfl rfl) rfl ?_
      refine O.p (Pu.move rfl) rfl ?_
      refine O.gq (t := 70) rfl rfl (by rw [Lv.new_grid (by assumption)]; simp) rfl (Pu.qt (Pu.move rfl)) rfl ?_
      refine O.gq (t := 70) rfl rfl (by rw [Lv.new_grid (by assumption)]; simp) rfl (Pu.qt (Pu.move rfl)) rfl ?_
      refine O.gq (t := 70) rfl rfl (by rw [Lv.new_grid (by assumption)]; simp) rfl (Pu.qt (Pu.eql rfl rfl)) rfl ?_
      refine O.p (Pu.pickT rfl (by rw [Lv.new_grid (by assumption)]; simp) rfl) rfl ?_
      refine O.p (Pu.move rfl) rfl ?_
      refine O.gq (t := 75) rfl rfl (decide_eq_true (by first | (rw [Lv.new_grid (by assumption)]; done) | (rw [Lv.new_grid (by assumption)]; rfl))) rfl (Pu.qt (Pu.move rfl)) rfl ?_
      refine O.gq (t := 75) rfl rfl (decide_eq_true (by first | (rw [Lv.new_grid (by assumption)]; done) | (rw [Lv.new_grid (by assumption)]; rfl))) rfl (Pu.qt (Pu.move rfl)) rfl ?_
      refine O.gq (t := 75) rfl rfl (decide_eq_true (by first | (rw [Lv.new_grid (by assumption)]; done) | (rw [Lv.new_grid (by assumption)]; rfl))) rfl (Pu.qt (Pu.eql rfl rfl)) rfl ?_
      refine O.p (Pu.pickT rfl (decide_eq_true (by first | (rw [Lv.new_grid (by assumption)]; done) | (rw [Lv.new_grid (by assumption)]; rfl))) rfl) rfl ?_
      refine O.p (Pu.move rfl) rfl ?_
      refine O.gq (t := 80) rfl rfl (decide_eq_true (by first | (rw [Lv.new_grid (by assumption)]; done) | (rw [Lv.new_grid (by assumption)]; rfl))) rfl (Pu.qt (Pu.move rfl)) rfl ?_
      refine O.gq (t := 80) rfl rfl (decide_eq_true (by first | (rw [Lv.new_grid (by assumption)]; done) | (rw [Lv.new_grid (by assumption)]; rfl))) rfl (Pu.qt (Pu.move rfl)) rfl ?_
      refine O.gq (t := 80) rfl rfl (decide_eq_true (by first | (rw [Lv.new_grid (by assumption)]; done) | (rw [Lv.new_grid (by assumption)]; rfl))) rfl (Pu.qt (Pu.eql rfl rfl)) rfl ?_
      refine O.p (Pu.pickT rfl (decide_eq_true (by first | (rw [Lv.new_grid (by assumption)]; done) | (rw [Lv.new_grid (by assumption)]; rfl))) rfl) rfl ?_
      refine O.p (Pu.move rfl) rfl ?_
      refine O.gl (t := 85) rfl rfl (decide_eq_true (by first | (rw [Lv.new_grid (by assumption)]; done) | (rw [Lv.new_grid (by assumption)]; rfl))) rfl (Lo.call [] (by exact Tryd.call11) rfl law08_awake [] [0, 1] (by decide) rfl _ rfl (RoOk.ro 0 rfl [] rfl RoOk.nil)) rfl ?_
      rintro _ _ ⟨_, ⟨rfl, rfl⟩, rfl⟩
      refine O.p (Pu.pickT rfl (decide_eq_true (by first | (rw [Lv.new_grid (by assumption)]; done) | (rw [Lv.new_grid (by assumption)]; rfl))) rfl) rfl ?_
      refine O.p (Pu.assign rfl) rfl ?_
      refine O.nil ?_
      exact J.ret (Fin.ret (rs := [.tmp 6]) rfl [_] ⟨rfl, trivial⟩ [] (by decide) [] rfl ⟨rfl, rfl⟩)

end Go.Proofs.YtcojpllfkobkeaaDoor
