/-
  Walks, printed by a program of mine (lk.py): each function meets its contract.
-/
import Derived.KernelRfl
import Derived.Test.YtcojpllfkobkeaaDoorLV4
namespace Go.Proofs.YtcojpllfkobkeaaDoor
open Go Go.LK
set_option linter.unusedSimpArgs false

set_option maxRecDepth 100000 in
set_option maxHeartbeats 4000000 in
theorem law08_levelBack (b c x y t : Int) : Tri Tryd.prog 5 #[.agg #[.int .i64 b, .int .i64 c], .agg #[.int .i64 x, .int .i64 y], .int .i64 t] [libW] [] (fun v L' => v = .bool true ∧ L' = []) := by
  refine Tri.enter (args := [.agg #[.int .i64 b, .int .i64 c], .agg #[.int .i64 x, .int .i64 y], .int .i64 t]) (body := _) 144 Tryd.func5 rfl Tryd.ntmps5 rfl ?_
  intro w0
  refine J.seq ?_
  refine J.region ?_
  refine O.l (Lo.box [.int .i64 b, .int .i64 c] rfl rfl) rfl ?_
  rintro _ _ ⟨g1, rfl, rfl⟩
  refine O.l (Lo.box [.int .i64 x, .int .i64 y] rfl rfl) rfl ?_
  rintro _ _ ⟨g2, rfl, rfl⟩
  refine O.p (Pu.assign rfl) rfl ?_
  refine O.nil ?_
  refine J.seq ?_
  refine J.drawStill Tryd.mixed (by kernel_rfl) ?_
  refine S.p (Pu.indexAddrK 0 Tryd.runUnderlying22 Tryd.sizeOf3 rfl rfl (by decide) (by decide) rfl) rfl ?_
  refine S.q (Qt.ld rfl (Cel.var 0 rfl) (o := 0) (off := 0) rfl (Cut.one Tryd.isAgg3 rfl)) rfl ?_
  refine S.p (Pu.indexAddrK 1 Tryd.runUnderlying22 Tryd.sizeOf3 rfl rfl (by decide) (by decide) rfl) rfl ?_
  refine S.q (Qt.ld rfl (Cel.var 0 rfl) (o := 0) (off := 1) rfl (Cut.one Tryd.isAgg3 rfl)) rfl ?_
  refine S.p (Pu.assign rfl) rfl ?_
  refine S.p (Pu.assign rfl) rfl ?_
  refine S.endJ ?_
  refine J.seq ?_
  refine J.region ?_
  refine O.p (Pu.indexAddrK 0 Tryd.runUnderlying22 Tryd.sizeOf3 rfl rfl (by decide) (by decide) rfl) rfl ?_
  refine O.q (Qt.ld rfl (Cel.var 1 rfl) (o := 0) (off := 0) rfl (Cut.one Tryd.isAgg3 rfl)) rfl ?_
  refine O.p (Pu.indexAddrK 1 Tryd.runUnderlying22 Tryd.sizeOf3 rfl rfl (by decide) (by decide) rfl) rfl ?_
  refine O.q (Qt.ld rfl (Cel.var 1 rfl) (o := 0) (off := 1) rfl (Cut.one Tryd.isAgg3 rfl)) rfl ?_
  refine O.l (Lo.call [.int .i64 b, .int .i64 c] (by exact Tryd.call6) rfl (lv_New b c) [] [0, 1] (by decide) rfl _ rfl RoOk.nil) rfl ?_
  rintro _ _ ⟨_, ⟨rfl, rfl⟩, rfl⟩
  refine O.p (Pu.move rfl) rfl ?_
  refine O.p (Pu.extract rfl rfl) rfl ?_
  refine O.p (Pu.extract rfl rfl) rfl ?_
  refine O.l (Lo.alloc [.int .i64 0, .int .i64 0] (by exact Tryd.zeroValue26) rfl) rfl ?_
  rintro _ _ ⟨g4, rfl, rfl⟩
  refine O.l0 (Lo.store 0 (vs := [.int .i64 ((Lv.new b c).1), .int .i64 ((Lv.new b c).2.1)]) [.int .i64 ((Lv.new b c).1), .int .i64 ((Lv.new b c).2.1)] rfl rfl rfl (by exact Tryd.sizeOf26) rfl rfl rfl rfl rfl) ?_
  rintro _ _ rfl
  refine O.p (Pu.assign rfl) rfl ?_
  refine O.nil ?_
  refine J.seq ?_
  refine J.seq ?_
  refine J.region ?_
  refine O.p (Pu.move rfl) rfl ?_
  refine O.p (Pu.neq rfl rfl) rfl ?_
  refine O.nil ?_
  refine J.cond rfl (fun h5 => ?_) (fun h5 => ?_)
  ·
    have p6 := of_decide_eq_true h5
    refine J.seq ?_
    refine J.region ?_
    refine O.l (Lo.call [] (by exact Tryd.call11) rfl law08_awake [] [0, 1, 2] (by decide) rfl _ rfl (RoOk.ro 0 rfl [] rfl RoOk.nil)) rfl ?_
    rintro _ _ ⟨_, ⟨rfl, rfl⟩, rfl⟩
    refine O.p (Pu.assign rfl) rfl ?_
    refine O.nil ?_
    exact J.ret (Fin.ret (rs := [.tmp 6]) rfl [_] ⟨rfl, trivial⟩ [] (by decide) [] rfl ⟨rfl, rfl⟩)
  ·
    have p8 := of_decide_eq_false h5
    refine J.skip ?_
    refine J.seq ?_
    refine J.region ?_
    refine O.q (Qt.ld rfl (Cel.var 0 rfl) (o := 0) (off := 0) rfl (Cut.agg [.int .i64 ((Lv.new b c).1), .int .i64 ((Lv.new b c).2.1)] Tryd.isAgg26 Tryd.sizeOf26 rfl rfl)) rfl ?_
    refine O.p (Pu.move rfl) rfl ?_
    refine O.l (Lo.call [.agg #[.int .i64 ((Lv.new b c).1), .int .i64 ((Lv.new b c).2.1)], .int .i64 x] (by exact Tryd.call9) rfl (lv_Split ((Lv.new b c).1) ((Lv.new b c).2.1) x (by exact Lv.new_ok)) [] [0, 1, 2] (by decide) rfl _ rfl RoOk.nil) rfl ?_
    rintro _ _ ⟨_, ⟨rfl, rfl⟩, rfl⟩
    refine O.p (Pu.move rfl) rfl ?_
    refine O.p (Pu.extract rfl rfl) rfl ?_
    refine O.p (Pu.extract rfl rfl) rfl ?_
    refine O.p (Pu.extract rfl rfl) rfl ?_
    refine O.p (Pu.assign rfl) rfl ?_
    refine O.p (Pu.assign rfl) rfl ?_
    refine O.p (Pu.assign rfl) rfl ?_
    refine O.nil ?_
    refine J.seq ?_
    refine J.region ?_
    refine O.q (Qt.ld rfl (Cel.var 0 rfl) (o := 0) (off := 0) rfl (Cut.agg [.int .i64 ((Lv.new b c).1), .int .i64 ((Lv.new b c).2.1)] Tryd.isAgg26 Tryd.sizeOf26 rfl rfl)) rfl ?_
    refine O.p (Pu.move rfl) rfl ?_
    refine O.l (Lo.call [.agg #[.int .i64 ((Lv.new b c).1), .int .i64 ((Lv.new b c).2.1)], .int .i64 y] (by exact Tryd.call9) rfl (lv_Split ((Lv.new b c).1) ((Lv.new b c).2.1) y (by exact Lv.new_ok)) [] [0, 1, 2] (by decide) rfl _ rfl RoOk.nil) rfl ?_
    rintro _ _ ⟨_, ⟨rfl, rfl⟩, rfl⟩
    refine O.p (Pu.move rfl) rfl ?_
    refine O.p (Pu.extract rfl rfl) rfl ?_
    refine O.p (Pu.extract rfl rfl) rfl ?_
    refine O.p (Pu.extract rfl rfl) rfl ?_
    refine O.p (Pu.assign rfl) rfl ?_
    refine O.p (Pu.assign rfl) rfl ?_
    refine O.p (Pu.assign rfl) rfl ?_
    refine O.nil ?_
    refine J.seq ?_
    refine J.seq ?_
    refine J.region ?_
    refine O.p (Pu.move rfl) rfl ?_
    refine O.p (Pu.eql rfl rfl) rfl ?_
    refine O.p (Pu.move rfl) rfl ?_
    refine O.p (Pu.geq rfl rfl) rfl ?_
    refine O.p (Pu.move rfl) rfl ?_
    refine by_bool (decide (0 ≤ x)) (fun h11 => ?_) (fun h11 => ?_)
    ·
      have p12 := of_decide_eq_true h11
      refine O.gq (t := 52) rfl rfl h11 rfl (Pu.qt (Pu.move rfl)) rfl ?_
      refine O.gq (t := 52) rfl rfl h11 rfl (Pu.qt (Pu.fieldAddr (off' := 0) Tryd.runUnderlying26 rfl Tryd.sizeOf24 rfl rfl rfl)) rfl ?_
      refine O.gq (t := 52) rfl rfl h11 rfl (Qt.ld rfl (Cel.var 0 rfl) (o := 0) (off := 0) rfl (Cut.agg [.int .i64 ((Lv.new b c).1), .int .i64 ((Lv.new b c).2.1)] Tryd.isAgg24 Tryd.sizeOf24 rfl rfl)) rfl ?_
      refine O.gl (t := 52) rfl rfl h11 rfl (Lo.call [.agg #[.int .i64 ((Lv.new b c).1), .int .i64 ((Lv.new b c).2.1)]] (by exact Tryd.call10) rfl (lv_Levels ((Lv.new b c).1) ((Lv.new b c).2.1) (by exact Lv.new_ok)) [] [0, 1, 2] (by decide) rfl _ rfl RoOk.nil) rfl ?_
      rintro _ _ ⟨_, ⟨rfl, rfl⟩, rfl⟩
      refine O.gq (t := 52) rfl rfl h11 rfl (Pu.qt (Pu.lss rfl rfl)) rfl ?_
      refine O.p (Pu.pickT rfl h11 rfl) rfl ?_
      refine O.p (Pu.bneq Tryd.underlying4 rfl rfl) rfl ?_
      refine O.p (Pu.move rfl) rfl ?_
      refine O.gq (t := 60) rfl rfl (by simp [Lv.split_code, *]) rfl (Pu.qt (Pu.move rfl)) rfl ?_
      refine O.gq (t := 60) rfl rfl (by simp [Lv.split_code, *]) rfl (Pu.qt (Pu.eql rfl rfl)) rfl ?_
      refine O.gq (t := 60) rfl rfl (by simp [Lv.split_code, *]) rfl (Pu.qt (Pu.move rfl)) rfl ?_
      refine O.gq (t := 60) rfl rfl (by simp [Lv.split_code, *]) rfl (Pu.qt (Pu.geq rfl rfl)) rfl ?_
      refine O.gq (t := 60) rfl rfl (by simp [Lv.split_code, *]) rfl (Pu.qt (Pu.move rfl)) rfl ?_
      refine by_bool (decide (0 ≤ y)) (fun h14 => ?_) (fun h14 => ?_)
      ·
        have p15 := of_decide_eq_true h14
        refine O.gq (t := 65) rfl rfl h14 rfl (Pu.qt (Pu.move rfl)) rfl ?_
        refine O.gq (t := 65) rfl rfl h14 rfl (Pu.qt (Pu.fieldAddr (off' := 0) Tryd.runUnderlying26 rfl Tryd.sizeOf24 rfl rfl rfl)) rfl ?_
        refine O.gq (t := 65) rfl rfl h14 rfl (Qt.ld rfl (Cel.var 0 rfl) (o := 0) (off := 0) rfl (Cut.agg [.int .i64 ((Lv.new b c).1), .int .i64 ((Lv.new b c).2.1)] Tryd.isAgg24 Tryd.sizeOf24 rfl rfl)) rfl ?_
        refine O.gl (t := 65) rfl rfl h14 rfl (Lo.call [.agg #[.int .i64 ((Lv.new b c).1), .int .i64 ((Lv.new b c).2.1)]] (by exact Tryd.call10) rfl (lv_Levels ((Lv.new b c).1) ((Lv.new b c).2.1) (by exact Lv.new_ok)) [] [0, 1, 2] (by decide) rfl _ rfl RoOk.nil) rfl ?_
        rintro _ _ ⟨_, ⟨rfl, rfl⟩, rfl⟩
        refine O.gq (t := 65) rfl rfl h14 rfl (Pu.qt (Pu.lss rfl rfl)) rfl ?_
        refine O.gq (t := 60) rfl rfl (by simp [Lv.split_code, *]) rfl (Pu.qt (Pu.pickT rfl h14 rfl)) rfl ?_
        refine O.gq (t := 60) rfl rfl (by simp [Lv.split_code, *]) rfl (Pu.qt (Pu.bneq Tryd.underlying4 rfl rfl)) rfl ?_
        refine O.p (Pu.pickF rfl (by simp [Lv.split_code, *]) rfl) rfl ?_
        refine O.p (Pu.move rfl) rfl ?_
        refine O.gq (t := 74) rfl rfl (by simp [Lv.split_code, *]) rfl (Pu.qt (Pu.move rfl)) rfl ?_
        refine O.gq (t := 74) rfl rfl (by simp [Lv.split_code, *]) rfl (Pu.qt (Pu.move rfl)) rfl ?_
        refine O.gl (t := 74) rfl rfl (by simp [Lv.split_code, *]) rfl (Lo.call [.int .i64 x, .int .i64 t] (by exact Tryd.call18) rfl (lv_Passes x t) [] [0, 1, 2] (by decide) rfl _ rfl RoOk.nil) rfl ?_
        rintro _ _ ⟨_, ⟨rfl, rfl⟩, rfl⟩
        refine O.gq (t := 74) rfl rfl (by simp [Lv.split_code, *]) rfl (Pu.qt (Pu.move rfl)) rfl ?_
        refine O.gq (t := 74) rfl rfl (by simp [Lv.split_code, *]) rfl (Pu.qt (Pu.geq rfl rfl)) rfl ?_
        refine O.gq (t := 74) rfl rfl (by simp [Lv.split_code, *]) rfl (Pu.qt (Pu.move rfl)) rfl ?_
        refine O.gq (t := 80) rfl rfl h11 rfl (Pu.qt (Pu.move rfl)) rfl ?_
        refine O.gq (t := 80) rfl rfl h11 rfl (Pu.qt (Pu.move rfl)) rfl ?_
        refine O.gq (t := 80) rfl rfl h11 rfl (Pu.qt (Pu.lss rfl rfl)) rfl ?_
        refine O.gq (t := 74) rfl rfl (by simp [Lv.split_code, *]) rfl (Pu.qt (Pu.pickT rfl h11 rfl)) rfl ?_
        refine O.gq (t := 74) rfl rfl (by simp [Lv.split_code, *]) rfl (Pu.qt (Pu.bneq Tryd.underlying4 rfl rfl)) rfl ?_
        refine O.p (Pu.pickF rfl (by simp [Lv.split_code, *]) rfl) rfl ?_
        refine O.nil ?_
        refine J.condF rfl (by simp [Lv.passes, *]) ?_
        refine J.skip ?_
        refine J.seq ?_
        refine J.seq ?_
        refine J.region ?_
        refine O.p (Pu.move rfl) rfl ?_
        refine O.p (Pu.neq rfl rfl) rfl ?_
        refine O.p (Pu.move rfl) rfl ?_
        refine by_bool (decide (((Lv.split ((Lv.new b c).1) ((Lv.new b c).2.1) x).2.2) ≠ 0)) (fun h18 => ?_) (fun h18 => ?_)
        ·
          have p19 := of_decide_eq_true h18
          refine O.gskip (t := 89) rfl rfl (no_bool (by rw [h18]; decide)) rfl rfl ?_
          refine O.gskip (t := 89) rfl rfl (no_bool (by rw [h18]; decide)) rfl rfl ?_
          refine O.p (Pu.pickT rfl h18 rfl) rfl ?_
          refine O.nil ?_
          refine J.condT rfl rfl ?_
          refine J.seq ?_
          refine J.region ?_
          refine O.l (Lo.call [] (by exact Tryd.call11) rfl law08_awake [] [0, 1, 2] (by decide) rfl _ rfl (RoOk.ro 0 rfl [] rfl RoOk.nil)) rfl ?_
          rintro _ _ ⟨_, ⟨rfl, rfl⟩, rfl⟩
          refine O.p (Pu.assign rfl) rfl ?_
          refine O.nil ?_
          exact J.ret (Fin.ret (rs := [.tmp 6]) rfl [_] ⟨rfl, trivial⟩ [] (by decide) [] rfl ⟨rfl, rfl⟩)
        ·
          have p21 := of_decide_eq_false h18
          refine O.gq (t := 89) rfl rfl h18 rfl (Pu.qt (Pu.move rfl)) rfl ?_
          refine O.gq (t := 89) rfl rfl h18 rfl (Pu.qt (Pu.neq rfl rfl)) rfl ?_
          refine O.p (Pu.pickF rfl h18 rfl) rfl ?_
          refine O.nil ?_
          refine J.cond rfl (fun h22 => ?_) (fun h22 => ?_)
          ·
            have p23 := of_decide_eq_true h22
            refine J.seq ?_
            refine J.region ?_
            refine O.l (Lo.call [] (by exact Tryd.call11) rfl law08_awake [] [0, 1, 2] (by decide) rfl _ rfl (RoOk.ro 0 rfl [] rfl RoOk.nil)) rfl ?_
            rintro _ _ ⟨_, ⟨rfl, rfl⟩, rfl⟩
            refine O.p (Pu.assign rfl) rfl ?_
            refine O.nil ?_
            exact J.ret (Fin.ret (rs := [.tmp 6]) rfl [_] ⟨rfl, trivial⟩ [] (by decide) [] rfl ⟨rfl, rfl⟩)
          ·
            have p25 := of_decide_eq_false h22
            refine J.skip ?_
            refine J.seq ?_
            refine J.region ?_
            refine O.q (Qt.ld rfl (Cel.var 0 rfl) (o := 0) (off := 0) rfl (Cut.agg [.int .i64 ((Lv.new b c).1), .int .i64 ((Lv.new b c).2.1)] Tryd.isAgg26 Tryd.sizeOf26 rfl rfl)) rfl ?_
            refine O.p (Pu.move rfl) rfl ?_
            refine O.p (Pu.move rfl) rfl ?_
            refine O.l (Lo.call [.agg #[.int .i64 ((Lv.new b c).1), .int .i64 ((Lv.new b c).2.1)], .int .i64 ((Lv.split ((Lv.new b c).1) ((Lv.new b c).2.1) x).1), .int .i64 ((Lv.split ((Lv.new b c).1) ((Lv.new b c).2.1) x).2.1)] (by exact Tryd.call8) rfl (lv_Of ((Lv.new b c).1) ((Lv.new b c).2.1) ((Lv.split ((Lv.new b c).1) ((Lv.new b c).2.1) x).1) ((Lv.split ((Lv.new b c).1) ((Lv.new b c).2.1) x).2.1) (by exact Lv.new_ok)) [] [0, 1, 2] (by decide) rfl _ rfl RoOk.nil) rfl ?_
            rintro _ _ ⟨_, ⟨rfl, rfl⟩, rfl⟩
            refine O.p (Pu.move rfl) rfl ?_
            refine O.p (Pu.extract rfl rfl) rfl ?_
            refine O.p (Pu.extract rfl rfl) rfl ?_
            refine O.p (Pu.assign rfl) rfl ?_
            refine O.p (Pu.assign rfl) rfl ?_
            refine O.nil ?_
            refine J.seq ?_
            refine J.seq ?_
            refine J.region ?_
            refine O.p (Pu.move rfl) rfl ?_
            refine O.p (Pu.move rfl) rfl ?_
            refine O.p (Pu.neq rfl rfl) rfl ?_
            refine O.p (Pu.move rfl) rfl ?_
            refine O.gq (t := 104) rfl rfl (decide_eq_false (by rw [Lv.back_of Lv.new_ok (by omega)]; simp)) rfl (Pu.qt (Pu.move rfl)) rfl ?_
            refine O.gq (t := 104) rfl rfl (decide_eq_false (by rw [Lv.back_of Lv.new_ok (by omega)]; simp)) rfl (Pu.qt (Pu.neq rfl rfl)) rfl ?_
            refine O.p (Pu.pickF rfl (decide_eq_false (by rw [Lv.back_of Lv.new_ok (by omega)]; simp)) rfl) rfl ?_
            refine O.p (Pu.move rfl) rfl ?_
            refine O.gq (t := 108) rfl rfl (decide_eq_false (by rw [Lv.back_of Lv.new_ok (by omega)]; simp)) rfl (Pu.qt (Pu.move rfl)) rfl ?_
            refine O.gq (t := 108) rfl rfl (decide_eq_false (by rw [Lv.back_of Lv.new_ok (by omega)]; simp)) rfl (Pu.qt (Pu.move rfl)) rfl ?_
            refine O.gq (t := 108) rfl rfl (decide_eq_false (by rw [Lv.back_of Lv.new_ok (by omega)]; simp)) rfl (Pu.qt (Pu.lss rfl rfl)) rfl ?_
            refine O.gq (t := 108) rfl rfl (decide_eq_false (by rw [Lv.back_of Lv.new_ok (by omega)]; simp)) rfl (Pu.qt (Pu.move rfl)) rfl ?_
            refine by_bool (decide (((Lv.split ((Lv.new b c).1) ((Lv.new b c).2.1) x).1) < ((Lv.split ((Lv.new b c).1) ((Lv.new b c).2.1) y).1))) (fun h27 => ?_) (fun h27 => ?_)
            ·
              have p28 := of_decide_eq_true h27
              refine O.gskip (t := 112) rfl rfl (no_bool (by rw [h27]; decide)) rfl rfl ?_
              refine O.gskip (t := 112) rfl rfl (no_bool (by rw [h27]; decide)) rfl rfl ?_
              refine O.gskip (t := 112) rfl rfl (no_bool (by rw [h27]; decide)) rfl rfl ?_
              refine O.gskip (t := 112) rfl rfl (no_bool (by rw [h27]; decide)) rfl rfl ?_
              refine O.gskip (t := 116) rfl rfl (no_undef _) rfl rfl ?_
              refine O.gskip (t := 116) rfl rfl (no_undef _) rfl rfl ?_
              refine O.gskip (t := 116) rfl rfl (no_undef _) rfl rfl ?_
              refine O.gskip (t := 112) rfl rfl (no_bool (by rw [h27]; decide)) rfl rfl ?_
              refine O.gq (t := 108) rfl rfl (decide_eq_false (by rw [Lv.back_of Lv.new_ok (by omega)]; simp)) rfl (Pu.qt (Pu.pickT rfl h27 rfl)) rfl ?_
              refine O.gq (t := 108) rfl rfl (decide_eq_false (by rw [Lv.back_of Lv.new_ok (by omega)]; simp)) rfl (Pu.qt (Pu.move rfl)) rfl ?_
              refine O.gq (t := 108) rfl rfl (decide_eq_false (by rw [Lv.back_of Lv.new_ok (by omega)]; simp)) rfl (Pu.qt (Pu.move rfl)) rfl ?_
              refine O.gq (t := 108) rfl rfl (decide_eq_false (by rw [Lv.back_of Lv.new_ok (by omega)]; simp)) rfl (Pu.qt (Pu.lss rfl rfl)) rfl ?_
              refine O.gq (t := 108) rfl rfl (decide_eq_false (by rw [Lv.back_of Lv.new_ok (by omega)]; simp)) rfl (Pu.qt (Pu.bneq Tryd.underlying4 rfl rfl)) rfl ?_
              refine O.p (Pu.pickF rfl (decide_eq_false (by rw [Lv.back_of Lv.new_ok (by omega)]; simp)) rfl) rfl ?_
              refine O.nil ?_
              refine J.condF rfl (by have h_ := Lv.lex2 (b := (Lv.new b c).1) (c := (Lv.new b c).2.1) (x := x) (y := y) Lv.new_ok (by omega) (by omega); by_cases hxy : x < y <;> by_cases hq : (Lv.split (Lv.new b c).1 (Lv.new b c).2.1 x).2.1 < (Lv.split (Lv.new b c).1 (Lv.new b c).2.1 y).2.1 <;> simp [hxy, hq] <;> omega) ?_
              refine J.skip ?_
              refine J.seq ?_
              refine J.region ?_
              refine O.p (Pu.move rfl) rfl ?_
              refine O.p (Pu.move rfl) rfl ?_
              refine O.p (Pu.gtr rfl rfl) rfl ?_
              refine O.p (Pu.move rfl) rfl ?_
              refine by_bool (decide (y < x)) (fun h29 => ?_) (fun h29 => ?_)
              ·
                have p30 := of_decide_eq_true h29
                refine O.gskip (t := 130) rfl rfl (no_bool (by rw [h29]; decide)) rfl rfl ?_
                refine O.gskip (t := 130) rfl rfl (no_bool (by rw [h29]; decide)) rfl rfl ?_
                refine O.gskip (t := 130) rfl rfl (no_bool (by rw [h29]; decide)) rfl rfl ?_
                refine O.gskip (t := 130) rfl rfl (no_bool (by rw [h29]; decide)) rfl rfl ?_
                refine O.p (Pu.pickT rfl h29 rfl) rfl ?_
                refine O.p (Pu.move rfl) rfl ?_
                refine O.gskip (t := 136) rfl rfl (no_bool (by decide)) rfl rfl ?_
                refine O.gskip (t := 136) rfl rfl (no_bool (by decide)) rfl rfl ?_
                refine O.gskip (t := 136) rfl rfl (no_bool (by decide)) rfl rfl ?_
                refine O.p (Pu.pickT rfl rfl rfl) rfl ?_
                refine O.p (Pu.move rfl) rfl ?_
                refine O.gl (t := 141) rfl rfl rfl rfl (Lo.call [] (by exact Tryd.call11) rfl law08_awake [] [0, 1, 2] (by decide) rfl _ rfl (RoOk.ro 0 rfl [] rfl RoOk.nil)) rfl ?_
                rintro _ _ ⟨_, ⟨rfl, rfl⟩, rfl⟩
                refine O.p (Pu.pickT rfl rfl rfl) rfl ?_
                refine O.p (Pu.assign rfl) rfl ?_
                refine O.nil ?_
                exact J.ret (Fin.ret (rs := [.tmp 6]) rfl [_] ⟨rfl, trivial⟩ [] (by decide) [] rfl ⟨rfl, rfl⟩)
              ·
                have p32 := of_decide_eq_false h29
                refine O.gq (t := 130) rfl rfl h29 rfl (Pu.qt (Pu.move rfl)) rfl ?_
                refine O.gq (t := 130) rfl rfl h29 rfl (Pu.qt (Pu.move rfl)) rfl ?_
                refine O.gl (t := 130) rfl rfl h29 rfl (Lo.call [.int .i64 y, .int .i64 t] (by exact Tryd.call18) rfl (lv_Passes y t) [] [0, 1, 2] (by decide) rfl _ rfl RoOk.nil) rfl ?_
                rintro _ _ ⟨_, ⟨rfl, rfl⟩, rfl⟩
                refine O.gq (t := 130) rfl rfl h29 rfl (Pu.qt (Pu.not rfl)) rfl ?_
                refine O.p (Pu.pickF rfl h29 rfl) rfl ?_
                refine O.p (Pu.move rfl) rfl ?_
                refine by_bool (!(Lv.passes y t)) (fun h34 => ?_) (fun h34 => ?_)
                ·
                  have h35 : (Lv.passes y t) = false := not_flip h34
                  refine O.gskip (t := 136) rfl rfl (no_bool (by rw [h34]; decide)) rfl rfl ?_
                  refine O.gskip (t := 136) rfl rfl (no_bool (by rw [h34]; decide)) rfl rfl ?_
                  refine O.gskip (t := 136) rfl rfl (no_bool (by rw [h34]; decide)) rfl rfl ?_
                  refine O.p (Pu.pickT rfl h34 rfl) rfl ?_
                  refine O.p (Pu.move rfl) rfl ?_
                  refine O.gl (t := 141) rfl rfl rfl rfl (Lo.call [] (by exact Tryd.call11) rfl law08_awake [] [0, 1, 2] (by decide) rfl _ rfl (RoOk.ro 0 rfl [] rfl RoOk.nil)) rfl ?_
                  rintro _ _ ⟨_, ⟨rfl, rfl⟩, rfl⟩
                  refine O.p (Pu.pickT rfl rfl rfl) rfl ?_
                  refine O.p (Pu.assign rfl) rfl ?_
                  refine O.nil ?_
                  exact J.ret (Fin.ret (rs := [.tmp 6]) rfl [_] ⟨rfl, trivial⟩ [] (by decide) [] rfl ⟨rfl, rfl⟩)
                ·
                  have h37 : (Lv.passes y t) = true := not_flip h34
                  refine O.gq (t := 136) rfl rfl h34 rfl (Pu.qt (Pu.move rfl)) rfl ?_
                  refine O.gq (t := 136) rfl rfl h34 rfl (Pu.qt (Pu.move rfl)) rfl ?_
                  refine O.gl (t := 136) rfl rfl h34 rfl (Lo.call [.int .i64 x, .int .i64 t] (by exact Tryd.call18) rfl (lv_Passes x t) [] [0, 1, 2] (by decide) rfl _ rfl RoOk.nil) rfl ?_
                  rintro _ _ ⟨_, ⟨rfl, rfl⟩, rfl⟩
                  refine O.p (Pu.pickF rfl h34 rfl) rfl ?_
                  refine O.p (Pu.move rfl) rfl ?_
                  refine O.gl (t := 141) rfl rfl (Lv.passes_iff.2 (by have h_ := Lv.passes_iff.1 (by assumption : Lv.passes y t = true); omega)) rfl (Lo.call [] (by exact Tryd.call11) rfl law08_awake [] [0, 1, 2] (by decide) rfl _ rfl (RoOk.ro 0 rfl [] rfl RoOk.nil)) rfl ?_
                  rintro _ _ ⟨_, ⟨rfl, rfl⟩, rfl⟩
                  refine O.p (Pu.pickT rfl (Lv.passes_iff.2 (by have h_ := Lv.passes_iff.1 (by assumption : Lv.passes y t = true); omega)) rfl) rfl ?_
                  refine O.p (Pu.assign rfl) rfl ?_
                  refine O.nil ?_
                  exact J.ret (Fin.ret (rs := [.tmp 6]) rfl [_] ⟨rfl, trivial⟩ [] (by decide) [] rfl ⟨rfl, rfl⟩)
            ·
              have p40 := of_decide_eq_false h27
              refine O.gq (t := 112) rfl rfl h27 rfl (Pu.qt (Pu.move rfl)) rfl ?_
              refine O.gq (t := 112) rfl rfl h27 rfl (Pu.qt (Pu.move rfl)) rfl ?_
              refine O.gq (t := 112) rfl rfl h27 rfl (Pu.qt (Pu.eql rfl rfl)) rfl ?_
              refine O.gq (t := 112) rfl rfl h27 rfl (Pu.qt (Pu.move rfl)) rfl ?_
              refine by_bool (decide (((Lv.split ((Lv.new b c).1) ((Lv.new b c).2.1) x).1) = ((Lv.split ((Lv.new b c).1) ((Lv.new b c).2.1) y).1))) (fun h41 => ?_) (fun h41 => ?_)
              ·
                have p42 := of_decide_eq_true h41
                refine O.gq (t := 116) rfl rfl h41 rfl (Pu.qt (Pu.move rfl)) rfl ?_
                refine O.gq (t := 116) rfl rfl h41 rfl (Pu.qt (Pu.move rfl)) rfl ?_
                refine O.gq (t := 116) rfl rfl h41 rfl (Pu.qt (Pu.lss rfl rfl)) rfl ?_
                refine O.gq (t := 112) rfl rfl h27 rfl (Pu.qt (Pu.pickT rfl h41 rfl)) rfl ?_
                refine O.gq (t := 108) rfl rfl (decide_eq_false (by rw [Lv.back_of Lv.new_ok (by omega)]; simp)) rfl (Pu.qt (Pu.pickF rfl h27 rfl)) rfl ?_
                refine O.gq (t := 108) rfl rfl (decide_eq_false (by rw [Lv.back_of Lv.new_ok (by omega)]; simp)) rfl (Pu.qt (Pu.move rfl)) rfl ?_
                refine O.gq (t := 108) rfl rfl (decide_eq_false (by rw [Lv.back_of Lv.new_ok (by omega)]; simp)) rfl (Pu.qt (Pu.move rfl)) rfl ?_
                refine O.gq (t := 108) rfl rfl (decide_eq_false (by rw [Lv.back_of Lv.new_ok (by omega)]; simp)) rfl (Pu.qt (Pu.lss rfl rfl)) rfl ?_
                refine O.gq (t := 108) rfl rfl (decide_eq_false (by rw [Lv.back_of Lv.new_ok (by omega)]; simp)) rfl (Pu.qt (Pu.bneq Tryd.underlying4 rfl rfl)) rfl ?_
                refine O.p (Pu.pickF rfl (decide_eq_false (by rw [Lv.back_of Lv.new_ok (by omega)]; simp)) rfl) rfl ?_
                refine O.nil ?_
                refine J.condF rfl (by have h_ := Lv.lex2 (b := (Lv.new b c).1) (c := (Lv.new b c).2.1) (x := x) (y := y) Lv.new_ok (by omega) (by omega); by_cases hxy : x < y <;> by_cases hq : (Lv.split (Lv.new b c).1 (Lv.new b c).2.1 x).2.1 < (Lv.split (Lv.new b c).1 (Lv.new b c).2.1 y).2.1 <;> simp [hxy, hq] <;> omega) ?_
                refine J.skip ?_
                refine J.seq ?_
                refine J.region ?_
                refine O.p (Pu.move rfl) rfl ?_
                refine O.p (Pu.move rfl) rfl ?_
                refine O.p (Pu.gtr rfl rfl) rfl ?_
                refine O.p (Pu.move rfl) rfl ?_
                refine by_bool (decide (y < x)) (fun h43 => ?_) (fun h43 => ?_)
                ·
                  have p44 := of_decide_eq_true h43
                  refine O.gskip (t := 130) rfl rfl (no_bool (by rw [h43]; decide)) rfl rfl ?_
                  refine O.gskip (t := 130) rfl rfl (no_bool (by rw [h43]; decide)) rfl rfl ?_
                  refine O.gskip (t := 130) rfl rfl (no_bool (by rw [h43]; decide)) rfl rfl ?_
                  refine O.gskip (t := 130) rfl rfl (no_bool (by rw [h43]; decide)) rfl rfl ?_
                  refine O.p (Pu.pickT rfl h43 rfl) rfl ?_
                  refine O.p (Pu.move rfl) rfl ?_
                  refine O.gskip (t := 136) rfl rfl (no_bool (by decide)) rfl rfl ?_
                  refine O.gskip (t := 136) rfl rfl (no_bool (by decide)) rfl rfl ?_
                  refine O.gskip (t := 136) rfl rfl (no_bool (by decide)) rfl rfl ?_
                  refine O.p (Pu.pickT rfl rfl rfl) rfl ?_
                  refine O.p (Pu.move rfl) rfl ?_
                  refine O.gl (t := 141) rfl rfl rfl rfl (Lo.call [] (by exact Tryd.call11) rfl law08_awake [] [0, 1, 2] (by decide) rfl _ rfl (RoOk.ro 0 rfl [] rfl RoOk.nil)) rfl ?_
                  rintro _ _ ⟨_, ⟨rfl, rfl⟩, rfl⟩
                  refine O.p (Pu.pickT rfl rfl rfl) rfl ?_
                  refine O.p (Pu.assign rfl) rfl ?_
                  refine O.nil ?_
                  exact J.ret (Fin.ret (rs := [.tmp 6]) rfl [_] ⟨rfl, trivial⟩ [] (by decide) [] rfl ⟨rfl, rfl⟩)
                ·
                  have p46 := of_decide_eq_false h43
                  refine O.gq (t := 130) rfl rfl h43 rfl (Pu.qt (Pu.move rfl)) rfl ?_
                  refine O.gq (t := 130) rfl rfl h43 rfl (Pu.qt (Pu.move rfl)) rfl ?_
                  refine O.gl (t := 130) rfl rfl h43 rfl (Lo.call [.int .i64 y, .int .i64 t] (by exact Tryd.call18) rfl (lv_Passes y t) [] [0, 1, 2] (by decide) rfl _ rfl RoOk.nil) rfl ?_
                  rintro _ _ ⟨_, ⟨rfl, rfl⟩, rfl⟩
                  refine O.gq (t := 130) rfl rfl h43 rfl (Pu.qt (Pu.not rfl)) rfl ?_
                  refine O.p (Pu.pickF rfl h43 rfl) rfl ?_
                  refine O.p (Pu.move rfl) rfl ?_
                  refine by_bool (!(Lv.passes y t)) (fun h48 => ?_) (fun h48 => ?_)
                  ·
                    have h49 : (Lv.passes y t) = false := not_flip h48
                    refine O.gskip (t := 136) rfl rfl (no_bool (by rw [h48]; decide)) rfl rfl ?_
                    refine O.gskip (t := 136) rfl rfl (no_bool (by rw [h48]; decide)) rfl rfl ?_
                    refine O.gskip (t := 136) rfl rfl (no_bool (by rw [h48]; decide)) rfl rfl ?_
                    refine O.p (Pu.pickT rfl h48 rfl) rfl ?_
                    refine O.p (Pu.move rfl) rfl ?_
                    refine O.gl (t := 141) rfl rfl rfl rfl (Lo.call [] (by exact Tryd.call11) rfl law08_awake [] [0, 1, 2] (by decide) rfl _ rfl (RoOk.ro 0 rfl [] rfl RoOk.nil)) rfl ?_
                    rintro _ _ ⟨_, ⟨rfl, rfl⟩, rfl⟩
                    refine O.p (Pu.pickT rfl rfl rfl) rfl ?_
                    refine O.p (Pu.assign rfl) rfl ?_
                    refine O.nil ?_
                    exact J.ret (Fin.ret (rs := [.tmp 6]) rfl [_] ⟨rfl, trivial⟩ [] (by decide) [] rfl ⟨rfl, rfl⟩)
                  ·
                    have h51 : (Lv.passes y t) = true := not_flip h48
                    refine O.gq (t := 136) rfl rfl h48 rfl (Pu.qt (Pu.move rfl)) rfl ?_
                    refine O.gq (t := 136) rfl rfl h48 rfl (Pu.qt (Pu.move rfl)) rfl ?_
                    refine O.gl (t := 136) rfl rfl h48 rfl (Lo.call [.int .i64 x, .int .i64 t] (by exact Tryd.call18) rfl (lv_Passes x t) [] [0, 1, 2] (by decide) rfl _ rfl RoOk.nil) rfl ?_
                    rintro _ _ ⟨_, ⟨rfl, rfl⟩, rfl⟩
                    refine O.p (Pu.pickF rfl h48 rfl) rfl ?_
                    refine O.p (Pu.move rfl) rfl ?_
                    refine O.gl (t := 141) rfl rfl (Lv.passes_iff.2 (by have h_ := Lv.passes_iff.1 (by assumption : Lv.passes y t = true); omega)) rfl (Lo.call [] (by exact Tryd.call11) rfl law08_awake [] [0, 1, 2] (by decide) rfl _ rfl (RoOk.ro 0 rfl [] rfl RoOk.nil)) rfl ?_
                    rintro _ _ ⟨_, ⟨rfl, rfl⟩, rfl⟩
                    refine O.p (Pu.pickT rfl (Lv.passes_iff.2 (by have h_ := Lv.passes_iff.1 (by assumption : Lv.passes y t = true); omega)) rfl) rfl ?_
                    refine O.p (Pu.assign rfl) rfl ?_
                    refine O.nil ?_
                    exact J.ret (Fin.ret (rs := [.tmp 6]) rfl [_] ⟨rfl, trivial⟩ [] (by decide) [] rfl ⟨rfl, rfl⟩)
              ·
                have p54 := of_decide_eq_false h41
                refine O.gskip (t := 116) rfl rfl (no_bool (by rw [h41]; decide)) rfl rfl ?_
                refine O.gskip (t := 116) rfl rfl (no_bool (by rw [h41]; decide)) rfl rfl ?_
                refine O.gskip (t := 116) rfl rfl (no_bool (by rw [h41]; decide)) rfl rfl ?_
                refine O.gq (t := 112) rfl rfl h27 rfl (Pu.qt (Pu.pickF rfl h41 rfl)) rfl ?_
                refine O.gq (t := 108) rfl rfl (decide_eq_false (by rw [Lv.back_of Lv.new_ok (by omega)]; simp)) rfl (Pu.qt (Pu.pickF rfl h27 rfl)) rfl ?_
                refine O.gq (t := 108) rfl rfl (decide_eq_false (by rw [Lv.back_of Lv.new_ok (by omega)]; simp)) rfl (Pu.qt (Pu.move rfl)) rfl ?_
                refine O.gq (t := 108) rfl rfl (decide_eq_false (by rw [Lv.back_of Lv.new_ok (by omega)]; simp)) rfl (Pu.qt (Pu.move rfl)) rfl ?_
                refine O.gq (t := 108) rfl rfl (decide_eq_false (by rw [Lv.back_of Lv.new_ok (by omega)]; simp)) rfl (Pu.qt (Pu.lss rfl rfl)) rfl ?_
                refine O.gq (t := 108) rfl rfl (decide_eq_false (by rw [Lv.back_of Lv.new_ok (by omega)]; simp)) rfl (Pu.qt (Pu.bneq Tryd.underlying4 rfl rfl)) rfl ?_
                refine O.p (Pu.pickF rfl (decide_eq_false (by rw [Lv.back_of Lv.new_ok (by omega)]; simp)) rfl) rfl ?_
                refine O.nil ?_
                refine J.condF rfl (by have h_ := Lv.lex2 (b := (Lv.new b c).1) (c := (Lv.new b c).2.1) (x := x) (y := y) Lv.new_ok (by omega) (by omega); by_cases hxy : x < y <;> by_cases hq : (Lv.split (Lv.new b c).1 (Lv.new b c).2.1 x).2.1 < (Lv.split (Lv.new b c).1 (Lv.new b c).2.1 y).2.1 <;> simp [hxy, hq] <;> omega) ?_
                refine J.skip ?_
                refine J.seq ?_
                refine J.region ?_
                refine O.p (Pu.move rfl) rfl ?_
                refine O.p (Pu.move rfl) rfl ?_
                refine O.p (Pu.gtr rfl rfl) rfl ?_
                refine O.p (Pu.move rfl) rfl ?_
                refine by_bool (decide (y < x)) (fun h55 => ?_) (fun h55 => ?_)
                ·
                  have p56 := of_decide_eq_true h55
                  refine O.gskip (t := 130) rfl rfl (no_bool (by rw [h55]; decide)) rfl rfl ?_
                  refine O.gskip (t := 130) rfl rfl (no_bool (by rw [h55]; decide)) rfl rfl ?_
                  refine O.gskip (t := 130) rfl rfl (no_bool (by rw [h55]; decide)) rfl rfl ?_
                  refine O.gskip (t := 130) rfl rfl (no_bool (by rw [h55]; decide)) rfl rfl ?_
                  refine O.p (Pu.pickT rfl h55 rfl) rfl ?_
                  refine O.p (Pu.move rfl) rfl ?_
                  refine O.gskip (t := 136) rfl rfl (no_bool (by decide)) rfl rfl ?_
                  refine O.gskip (t := 136) rfl rfl (no_bool (by decide)) rfl rfl ?_
                  refine O.gskip (t := 136) rfl rfl (no_bool (by decide)) rfl rfl ?_
                  refine O.p (Pu.pickT rfl rfl rfl) rfl ?_
                  refine O.p (Pu.move rfl) rfl ?_
                  refine O.gl (t := 141) rfl rfl rfl rfl (Lo.call [] (by exact Tryd.call11) rfl law08_awake [] [0, 1, 2] (by decide) rfl _ rfl (RoOk.ro 0 rfl [] rfl RoOk.nil)) rfl ?_
                  rintro _ _ ⟨_, ⟨rfl, rfl⟩, rfl⟩
                  refine O.p (Pu.pickT rfl rfl rfl) rfl ?_
                  refine O.p (Pu.assign rfl) rfl ?_
                  refine O.nil ?_
                  exact J.ret (Fin.ret (rs := [.tmp 6]) rfl [_] ⟨rfl, trivial⟩ [] (by decide) [] rfl ⟨rfl, rfl⟩)
                ·
                  have p58 := of_decide_eq_false h55
                  refine O.gq (t := 130) rfl rfl h55 rfl (Pu.qt (Pu.move rfl)) rfl ?_
                  refine O.gq (t := 130) rfl rfl h55 rfl (Pu.qt (Pu.move rfl)) rfl ?_
                  refine O.gl (t := 130) rfl rfl h55 rfl (Lo.call [.int .i64 y, .int .i64 t] (by exact Tryd.call18) rfl (lv_Passes y t) [] [0, 1, 2] (by decide) rfl _ rfl RoOk.nil) rfl ?_
                  rintro _ _ ⟨_, ⟨rfl, rfl⟩, rfl⟩
                  refine O.gq (t := 130) rfl rfl h55 rfl (Pu.qt (Pu.not rfl)) rfl ?_
                  refine O.p (Pu.pickF rfl h55 rfl) rfl ?_
                  refine O.p (Pu.move rfl) rfl ?_
                  refine by_bool (!(Lv.passes y t)) (fun h60 => ?_) (fun h60 => ?_)
                  ·
                    have h61 : (Lv.passes y t) = false := not_flip h60
                    refine O.gskip (t := 136) rfl rfl (no_bool (by rw [h60]; decide)) rfl rfl ?_
                    refine O.gskip (t := 136) rfl rfl (no_bool (by rw [h60]; decide)) rfl rfl ?_
                    refine O.gskip (t := 136) rfl rfl (no_bool (by rw [h60]; decide)) rfl rfl ?_
                    refine O.p (Pu.pickT rfl h60 rfl) rfl ?_
                    refine O.p (Pu.move rfl) rfl ?_
                    refine O.gl (t := 141) rfl rfl rfl rfl (Lo.call [] (by exact Tryd.call11) rfl law08_awake [] [0, 1, 2] (by decide) rfl _ rfl (RoOk.ro 0 rfl [] rfl RoOk.nil)) rfl ?_
                    rintro _ _ ⟨_, ⟨rfl, rfl⟩, rfl⟩
                    refine O.p (Pu.pickT rfl rfl rfl) rfl ?_
                    refine O.p (Pu.assign rfl) rfl ?_
                    refine O.nil ?_
                    exact J.ret (Fin.ret (rs := [.tmp 6]) rfl [_] ⟨rfl, trivial⟩ [] (by decide) [] rfl ⟨rfl, rfl⟩)
                  ·
                    have h63 : (Lv.passes y t) = true := not_flip h60
                    refine O.gq (t := 136) rfl rfl h60 rfl (Pu.qt (Pu.move rfl)) rfl ?_
                    refine O.gq (t := 136) rfl rfl h60 rfl (Pu.qt (Pu.move rfl)) rfl ?_
                    refine O.gl (t := 136) rfl rfl h60 rfl (Lo.call [.int .i64 x, .int .i64 t] (by exact Tryd.call18) rfl (lv_Passes x t) [] [0, 1, 2] (by decide) rfl _ rfl RoOk.nil) rfl ?_
                    rintro _ _ ⟨_, ⟨rfl, rfl⟩, rfl⟩
                    refine O.p (Pu.pickF rfl h60 rfl) rfl ?_
                    refine O.p (Pu.move rfl) rfl ?_
                    refine O.gl (t := 141) rfl rfl (Lv.passes_iff.2 (by have h_ := Lv.passes_iff.1 (by assumption : Lv.passes y t = true); omega)) rfl (Lo.call [] (by exact Tryd.call11) rfl law08_awake [] [0, 1, 2] (by decide) rfl _ rfl (RoOk.ro 0 rfl [] rfl RoOk.nil)) rfl ?_
                    rintro _ _ ⟨_, ⟨rfl, rfl⟩, rfl⟩
                    refine O.p (Pu.pickT rfl (Lv.passes_iff.2 (by have h_ := Lv.passes_iff.1 (by assumption : Lv.passes y t = true); omega)) rfl) rfl ?_
                    refine O.p (Pu.assign rfl) rfl ?_
                    refine O.nil ?_
                    exact J.ret (Fin.ret (rs := [.tmp 6]) rfl [_] ⟨rfl, trivial⟩ [] (by decide) [] rfl ⟨rfl, rfl⟩)
      ·
        have p66 := of_decide_eq_false h14
        refine O.gskip (t := 65) rfl rfl (no_bool (by rw [h14]; decide)) rfl rfl ?_
        refine O.gskip (t := 65) rfl rfl (no_bool (by rw [h14]; decide)) rfl rfl ?_
        refine O.gskip (t := 65) rfl rfl (no_bool (by rw [h14]; decide)) rfl rfl ?_
        refine O.gskip (t := 65) rfl rfl (no_bool (by rw [h14]; decide)) rfl rfl ?_
        refine O.gskip (t := 65) rfl rfl (no_bool (by rw [h14]; decide)) rfl rfl ?_
        refine O.gq (t := 60) rfl rfl (by simp [Lv.split_code, *]) rfl (Pu.qt (Pu.pickF rfl h14 rfl)) rfl ?_
        refine O.gq (t := 60) rfl rfl (by simp [Lv.split_code, *]) rfl (Pu.qt (Pu.bneq Tryd.underlying4 rfl rfl)) rfl ?_
        refine O.p (Pu.pickF rfl (by simp [Lv.split_code, *]) rfl) rfl ?_
        refine O.p (Pu.move rfl) rfl ?_
        refine O.gq (t := 74) rfl rfl (by simp [Lv.split_code, *]) rfl (Pu.qt (Pu.move rfl)) rfl ?_
        refine O.gq (t := 74) rfl rfl (by simp [Lv.split_code, *]) rfl (Pu.qt (Pu.move rfl)) rfl ?_
        refine O.gl (t := 74) rfl rfl (by simp [Lv.split_code, *]) rfl (Lo.call [.int .i64 x, .int .i64 t] (by exact Tryd.call18) rfl (lv_Passes x t) [] [0, 1, 2] (by decide) rfl _ rfl RoOk.nil) rfl ?_
        rintro _ _ ⟨_, ⟨rfl, rfl⟩, rfl⟩
        refine O.gq (t := 74) rfl rfl (by simp [Lv.split_code, *]) rfl (Pu.qt (Pu.move rfl)) rfl ?_
        refine O.gq (t := 74) rfl rfl (by simp [Lv.split_code, *]) rfl (Pu.qt (Pu.geq rfl rfl)) rfl ?_
        refine O.gq (t := 74) rfl rfl (by simp [Lv.split_code, *]) rfl (Pu.qt (Pu.move rfl)) rfl ?_
        refine O.gq (t := 80) rfl rfl h11 rfl (Pu.qt (Pu.move rfl)) rfl ?_
        refine O.gq (t := 80) rfl rfl h11 rfl (Pu.qt (Pu.move rfl)) rfl ?_
        refine O.gq (t := 80) rfl rfl h11 rfl (Pu.qt (Pu.lss rfl rfl)) rfl ?_
        refine O.gq (t := 74) rfl rfl (by simp [Lv.split_code, *]) rfl (Pu.qt (Pu.pickT rfl h11 rfl)) rfl ?_
        refine O.gq (t := 74) rfl rfl (by simp [Lv.split_code, *]) rfl (Pu.qt (Pu.bneq Tryd.underlying4 rfl rfl)) rfl ?_
        refine O.p (Pu.pickF rfl (by simp [Lv.split_code, *]) rfl) rfl ?_
        refine O.nil ?_
        refine J.condF rfl (by simp [Lv.passes, *]) ?_
        refine J.skip ?_
        refine J.seq ?_
        refine J.seq ?_
        refine J.region ?_
        refine O.p (Pu.move rfl) rfl ?_
        refine O.p (Pu.neq rfl rfl) rfl ?_
        refine O.p (Pu.move rfl) rfl ?_
        refine by_bool (decide (((Lv.split ((Lv.new b c).1) ((Lv.new b c).2.1) x).2.2) ≠ 0)) (fun h68 => ?_) (fun h68 => ?_)
        ·
          have p69 := of_decide_eq_true h68
          refine O.gskip (t := 89) rfl rfl (no_bool (by rw [h68]; decide)) rfl rfl ?_
          refine O.gskip (t := 89) rfl rfl (no_bool (by rw [h68]; decide)) rfl rfl ?_
          refine O.p (Pu.pickT rfl h68 rfl) rfl ?_
          refine O.nil ?_
          refine J.condT rfl rfl ?_
          refine J.seq ?_
          refine J.region ?_
          refine O.l (Lo.call [] (by exact Tryd.call11) rfl law08_awake [] [0, 1, 2] (by decide) rfl _ rfl (RoOk.ro 0 rfl [] rfl RoOk.nil)) rfl ?_
          rintro _ _ ⟨_, ⟨rfl, rfl⟩, rfl⟩
          refine O.p (Pu.assign rfl) rfl ?_
          refine O.nil ?_
          exact J.ret (Fin.ret (rs := [.tmp 6]) rfl [_] ⟨rfl, trivial⟩ [] (by decide) [] rfl ⟨rfl, rfl⟩)
        ·
          have p71 := of_decide_eq_false h68
          refine O.gq (t := 89) rfl rfl h68 rfl (Pu.qt (Pu.move rfl)) rfl ?_
          refine O.gq (t := 89) rfl rfl h68 rfl (Pu.qt (Pu.neq rfl rfl)) rfl ?_
          refine O.p (Pu.pickF rfl h68 rfl) rfl ?_
          refine O.nil ?_
          refine J.cond rfl (fun h72 => ?_) (fun h72 => ?_)
          ·
            have p73 := of_decide_eq_true h72
            refine J.seq ?_
            refine J.region ?_
            refine O.l (Lo.call [] (by exact Tryd.call11) rfl law08_awake [] [0, 1, 2] (by decide) rfl _ rfl (RoOk.ro 0 rfl [] rfl RoOk.nil)) rfl ?_
            rintro _ _ ⟨_, ⟨rfl, rfl⟩, rfl⟩
            refine O.p (Pu.assign rfl) rfl ?_
            refine O.nil ?_
            exact J.ret (Fin.ret (rs := [.tmp 6]) rfl [_] ⟨rfl, trivial⟩ [] (by decide) [] rfl ⟨rfl, rfl⟩)
          ·
            have p75 := of_decide_eq_false h72
            exact absurd (Lv.split_code.1 (by omega : (Lv.split (Lv.new b c).1 (Lv.new b c).2.1 y).2.2 = 0)) (by omega)
    ·
      have p76 := of_decide_eq_false h11
      refine O.gskip (t := 52) rfl rfl (no_bool (by rw [h11]; decide)) rfl rfl ?_
      refine O.gskip (t := 52) rfl rfl (no_bool (by rw [h11]; decide)) rfl rfl ?_
      refine O.gskip (t := 52) rfl rfl (no_bool (by rw [h11]; decide)) rfl rfl ?_
      refine O.gskip (t := 52) rfl rfl (no_bool (by rw [h11]; decide)) rfl rfl ?_
      refine O.gskip (t := 52) rfl rfl (no_bool (by rw [h11]; decide)) rfl rfl ?_
      refine O.p (Pu.pickF rfl h11 rfl) rfl ?_
      refine O.p (Pu.bneq Tryd.underlying4 rfl rfl) rfl ?_
      refine O.p (Pu.move rfl) rfl ?_
      refine O.gq (t := 60) rfl rfl (by simp [Lv.split_code, *]) rfl (Pu.qt (Pu.move rfl)) rfl ?_
      refine O.gq (t := 60) rfl rfl (by simp [Lv.split_code, *]) rfl (Pu.qt (Pu.eql rfl rfl)) rfl ?_
      refine O.gq (t := 60) rfl rfl (by simp [Lv.split_code, *]) rfl (Pu.qt (Pu.move rfl)) rfl ?_
      refine O.gq (t := 60) rfl rfl (by simp [Lv.split_code, *]) rfl (Pu.qt (Pu.geq rfl rfl)) rfl ?_
      refine O.gq (t := 60) rfl rfl (by simp [Lv.split_code, *]) rfl (Pu.qt (Pu.move rfl)) rfl ?_
      refine by_bool (decide (0 ≤ y)) (fun h77 => ?_) (fun h77 => ?_)
      ·
        have p78 := of_decide_eq_true h77
        refine O.gq (t := 65) rfl rfl h77 rfl (Pu.qt (Pu.move rfl)) rfl ?_
        refine O.gq (t := 65) rfl rfl h77 rfl (Pu.qt (Pu.fieldAddr (off' := 0) Tryd.runUnderlying26 rfl Tryd.sizeOf24 rfl rfl rfl)) rfl ?_
        refine O.gq (t := 65) rfl rfl h77 rfl (Qt.ld rfl (Cel.var 0 rfl) (o := 0) (off := 0) rfl (Cut.agg [.int .i64 ((Lv.new b c).1), .int .i64 ((Lv.new b c).2.1)] Tryd.isAgg24 Tryd.sizeOf24 rfl rfl)) rfl ?_
        refine O.gl (t := 65) rfl rfl h77 rfl (Lo.call [.agg #[.int .i64 ((Lv.new b c).1), .int .i64 ((Lv.new b c).2.1)]] (by exact Tryd.call10) rfl (lv_Levels ((Lv.new b c).1) ((Lv.new b c).2.1) (by exact Lv.new_ok)) [] [0, 1, 2] (by decide) rfl _ rfl RoOk.nil) rfl ?_
        rintro _ _ ⟨_, ⟨rfl, rfl⟩, rfl⟩
        refine O.gq (t := 65) rfl rfl h77 rfl (Pu.qt (Pu.lss rfl rfl)) rfl ?_
        refine O.gq (t := 60) rfl rfl (by simp [Lv.split_code, *]) rfl (Pu.qt (Pu.pickT rfl h77 rfl)) rfl ?_
        refine O.gq (t := 60) rfl rfl (by simp [Lv.split_code, *]) rfl (Pu.qt (Pu.bneq Tryd.underlying4 rfl rfl)) rfl ?_
        refine O.p (Pu.pickF rfl (by simp [Lv.split_code, *]) rfl) rfl ?_
        refine O.p (Pu.move rfl) rfl ?_
        refine O.gq (t := 74) rfl rfl (by simp [Lv.split_code, *]) rfl (Pu.qt (Pu.move rfl)) rfl ?_
        refine O.gq (t := 74) rfl rfl (by simp [Lv.split_code, *]) rfl (Pu.qt (Pu.move rfl)) rfl ?_
        refine O.gl (t := 74) rfl rfl (by simp [Lv.split_code, *]) rfl (Lo.call [.int .i64 x, .int .i64 t] (by exact Tryd.call18) rfl (lv_Passes x t) [] [0, 1, 2] (by decide) rfl _ rfl RoOk.nil) rfl ?_
        rintro _ _ ⟨_, ⟨rfl, rfl⟩, rfl⟩
        refine O.gq (t := 74) rfl rfl (by simp [Lv.split_code, *]) rfl (Pu.qt (Pu.move rfl)) rfl ?_
        refine O.gq (t := 74) rfl rfl (by simp [Lv.split_code, *]) rfl (Pu.qt (Pu.geq rfl rfl)) rfl ?_
        refine O.gq (t := 74) rfl rfl (by simp [Lv.split_code, *]) rfl (Pu.qt (Pu.move rfl)) rfl ?_
        refine O.gskip (t := 80) rfl rfl (no_bool (by rw [h11]; decide)) rfl rfl ?_
        refine O.gskip (t := 80) rfl rfl (no_bool (by rw [h11]; decide)) rfl rfl ?_
        refine O.gskip (t := 80) rfl rfl (no_bool (by rw [h11]; decide)) rfl rfl ?_
        refine O.gq (t := 74) rfl rfl (by simp [Lv.split_code, *]) rfl (Pu.qt (Pu.pickF rfl h11 rfl)) rfl ?_
        refine O.gq (t := 74) rfl rfl (by simp [Lv.split_code, *]) rfl (Pu.qt (Pu.bneq Tryd.underlying4 rfl rfl)) rfl ?_
        refine O.p (Pu.pickF rfl (by simp [Lv.split_code, *]) rfl) rfl ?_
        refine O.nil ?_
        refine J.condF rfl (by simp [Lv.passes, *]) ?_
        refine J.skip ?_
        refine J.seq ?_
        refine J.seq ?_
        refine J.region ?_
        refine O.p (Pu.move rfl) rfl ?_
        refine O.p (Pu.neq rfl rfl) rfl ?_
        refine O.p (Pu.move rfl) rfl ?_
        refine by_bool (decide (((Lv.split ((Lv.new b c).1) ((Lv.new b c).2.1) x).2.2) ≠ 0)) (fun h81 => ?_) (fun h81 => ?_)
        ·
          have p82 := of_decide_eq_true h81
          refine O.gskip (t := 89) rfl rfl (no_bool (by rw [h81]; decide)) rfl rfl ?_
          refine O.gskip (t := 89) rfl rfl (no_bool (by rw [h81]; decide)) rfl rfl ?_
          refine O.p (Pu.pickT rfl h81 rfl) rfl ?_
          refine O.nil ?_
          refine J.condT rfl rfl ?_
          refine J.seq ?_
          refine J.region ?_
          refine O.l (Lo.call [] (by exact Tryd.call11) rfl law08_awake [] [0, 1, 2] (by decide) rfl _ rfl (RoOk.ro 0 rfl [] rfl RoOk.nil)) rfl ?_
          rintro _ _ ⟨_, ⟨rfl, rfl⟩, rfl⟩
          refine O.p (Pu.assign rfl) rfl ?_
          refine O.nil ?_
          exact J.ret (Fin.ret (rs := [.tmp 6]) rfl [_] ⟨rfl, trivial⟩ [] (by decide) [] rfl ⟨rfl, rfl⟩)
        ·
          have p84 := of_decide_eq_false h81
          refine O.gq (t := 89) rfl rfl h81 rfl (Pu.qt (Pu.move rfl)) rfl ?_
          refine O.gq (t := 89) rfl rfl h81 rfl (Pu.qt (Pu.neq rfl rfl)) rfl ?_
          refine O.p (Pu.pickF rfl h81 rfl) rfl ?_
          refine O.nil ?_
          refine J.cond rfl (fun h85 => ?_) (fun h85 => ?_)
          ·
            have p86 := of_decide_eq_true h85
            exact absurd (Lv.split_code.1 (by omega : (Lv.split (Lv.new b c).1 (Lv.new b c).2.1 x).2.2 = 0)) (by omega)
          ·
            have p87 := of_decide_eq_false h85
            exact absurd (Lv.split_code.1 (by omega : (Lv.split (Lv.new b c).1 (Lv.new b c).2.1 x).2.2 = 0)) (by omega)
      ·
        have p88 := of_decide_eq_false h77
        refine O.gskip (t := 65) rfl rfl (no_bool (by rw [h77]; decide)) rfl rfl ?_
        refine O.gskip (t := 65) rfl rfl (no_bool (by rw [h77]; decide)) rfl rfl ?_
        refine O.gskip (t := 65) rfl rfl (no_bool (by rw [h77]; decide)) rfl rfl ?_
        refine O.gskip (t := 65) rfl rfl (no_bool (by rw [h77]; decide)) rfl rfl ?_
        refine O.gskip (t := 65) rfl rfl (no_bool (by rw [h77]; decide)) rfl rfl ?_
        refine O.gq (t := 60) rfl rfl (by simp [Lv.split_code, *]) rfl (Pu.qt (Pu.pickF rfl h77 rfl)) rfl ?_
        refine O.gq (t := 60) rfl rfl (by simp [Lv.split_code, *]) rfl (Pu.qt (Pu.bneq Tryd.underlying4 rfl rfl)) rfl ?_
        refine O.p (Pu.pickF rfl (by simp [Lv.split_code, *]) rfl) rfl ?_
        refine O.p (Pu.move rfl) rfl ?_
        refine O.gq (t := 74) rfl rfl (by simp [Lv.split_code, *]) rfl (Pu.qt (Pu.move rfl)) rfl ?_
        refine O.gq (t := 74) rfl rfl (by simp [Lv.split_code, *]) rfl (Pu.qt (Pu.move rfl)) rfl ?_
        refine O.gl (t := 74) rfl rfl (by simp [Lv.split_code, *]) rfl (Lo.call [.int .i64 x, .int .i64 t] (by exact Tryd.call18) rfl (lv_Passes x t) [] [0, 1, 2] (by decide) rfl _ rfl RoOk.nil) rfl ?_
        rintro _ _ ⟨_, ⟨rfl, rfl⟩, rfl⟩
        refine O.gq (t := 74) rfl rfl (by simp [Lv.split_code, *]) rfl (Pu.qt (Pu.move rfl)) rfl ?_
        refine O.gq (t := 74) rfl rfl (by simp [Lv.split_code, *]) rfl (Pu.qt (Pu.geq rfl rfl)) rfl ?_
        refine O.gq (t := 74) rfl rfl (by simp [Lv.split_code, *]) rfl (Pu.qt (Pu.move rfl)) rfl ?_
        refine O.gskip (t := 80) rfl rfl (no_bool (by rw [h11]; decide)) rfl rfl ?_
        refine O.gskip (t := 80) rfl rfl (no_bool (by rw [h11]; decide)) rfl rfl ?_
        refine O.gskip (t := 80) rfl rfl (no_bool (by rw [h11]; decide)) rfl rfl ?_
        refine O.gq (t := 74) rfl rfl (by simp [Lv.split_code, *]) rfl (Pu.qt (Pu.pickF rfl h11 rfl)) rfl ?_
        refine O.gq (t := 74) rfl rfl (by simp [Lv.split_code, *]) rfl (Pu.qt (Pu.bneq Tryd.underlying4 rfl rfl)) rfl ?_
        refine O.p (Pu.pickF rfl (by simp [Lv.split_code, *]) rfl) rfl ?_
        refine O.nil ?_
        refine J.condF rfl (by simp [Lv.passes, *]) ?_
        refine J.skip ?_
        refine J.seq ?_
        refine J.seq ?_
        refine J.region ?_
        refine O.p (Pu.move rfl) rfl ?_
        refine O.p (Pu.neq rfl rfl) rfl ?_
        refine O.p (Pu.move rfl) rfl ?_
        refine by_bool (decide (((Lv.split ((Lv.new b c).1) ((Lv.new b c).2.1) x).2.2) ≠ 0)) (fun h90 => ?_) (fun h90 => ?_)
        ·
          have p91 := of_decide_eq_true h90
          refine O.gskip (t := 89) rfl rfl (no_bool (by rw [h90]; decide)) rfl rfl ?_
          refine O.gskip (t := 89) rfl rfl (no_bool (by rw [h90]; decide)) rfl rfl ?_
          refine O.p (Pu.pickT rfl h90 rfl) rfl ?_
          refine O.nil ?_
          refine J.condT rfl rfl ?_
          refine J.seq ?_
          refine J.region ?_
          refine O.l (Lo.call [] (by exact Tryd.call11) rfl law08_awake [] [0, 1, 2] (by decide) rfl _ rfl (RoOk.ro 0 rfl [] rfl RoOk.nil)) rfl ?_
          rintro _ _ ⟨_, ⟨rfl, rfl⟩, rfl⟩
          refine O.p (Pu.assign rfl) rfl ?_
          refine O.nil ?_
          exact J.ret (Fin.ret (rs := [.tmp 6]) rfl [_] ⟨rfl, trivial⟩ [] (by decide) [] rfl ⟨rfl, rfl⟩)
        ·
          have p93 := of_decide_eq_false h90
          refine O.gq (t := 89) rfl rfl h90 rfl (Pu.qt (Pu.move rfl)) rfl ?_
          refine O.gq (t := 89) rfl rfl h90 rfl (Pu.qt (Pu.neq rfl rfl)) rfl ?_
          refine O.p (Pu.pickF rfl h90 rfl) rfl ?_
          refine O.nil ?_
          refine J.cond rfl (fun h94 => ?_) (fun h94 => ?_)
          ·
            have p95 := of_decide_eq_true h94
            exact absurd (Lv.split_code.1 (by omega : (Lv.split (Lv.new b c).1 (Lv.new b c).2.1 x).2.2 = 0)) (by omega)
          ·
            have p96 := of_decide_eq_false h94
            exact absurd (Lv.split_code.1 (by omega : (Lv.split (Lv.new b c).1 (Lv.new b c).2.1 x).2.2 = 0)) (by omega)

end Go.Proofs.YtcojpllfkobkeaaDoor
