/-
  Walks, printed by a program of mine (lk.py): each function meets its contract.
-/
import Derived.KernelRfl
import Derived.Test.YtcojpllfkobkeaaDoorLV1
import Derived.Test.YtcojpllfkobkeaaDoorNums08
import Derived.Test.YtcojpllfkobkeaaDoorLevel1
namespace Go.Proofs.YtcojpllfkobkeaaDoor
open Go Go.LK
set_option linter.unusedSimpArgs false

set_option maxRecDepth 100000 in
theorem lv_New (b c : Int) : Tri Tryd.prog 6 #[.int .i64 b, .int .i64 c] [] [] (fun v L' => v = .tuple #[.agg #[.int .i64 (Lv.new b c).1, .int .i64 (Lv.new b c).2.1], .int .i64 (Lv.new b c).2.2] ∧ L' = []) := by
  refine Tri.enter (args := [.int .i64 b, .int .i64 c]) (body := _) 27 Tryd.func6 rfl Tryd.ntmps6 rfl ?_
  intro w0
  refine J.seq ?_
  refine J.region ?_
  refine O.l (Lo.alloc [.int .i64 0, .int .i64 0] (by exact Tryd.zeroValue26) rfl) rfl ?_
  rintro _ _ ⟨g1, rfl, rfl⟩
  refine O.p (Pu.assign rfl) rfl ?_
  refine O.nil ?_
  refine J.seq ?_
  refine J.region ?_
  refine O.p (Pu.move rfl) rfl ?_
  refine O.p (Pu.move rfl) rfl ?_
  refine O.p (Pu.build [(0, .int .i64 b), (1, .int .i64 c)] [.int .i64 b, .int .i64 c] #[(0, 1), (1, 1)] Tryd.runUnderlying24 Tryd.zeroValue24 (places24 Tryd.underlying24) rfl (by kernel_rfl)) rfl ?_
  refine O.p (Pu.build [(0, .agg #[.int .i64 b, .int .i64 c])] [.int .i64 b, .int .i64 c] #[(0, 2)] Tryd.runUnderlying26 Tryd.zeroValue26 (places26 Tryd.underlying26) rfl (by kernel_rfl)) rfl ?_
  refine O.l (Lo.alloc [.int .i64 0, .int .i64 0] (by exact Tryd.zeroValue26) rfl) rfl ?_
  rintro _ _ ⟨g2, rfl, rfl⟩
  refine O.l0 (Lo.store 0 (vs := [.int .i64 b, .int .i64 c]) [.int .i64 b, .int .i64 c] rfl rfl rfl (by exact Tryd.sizeOf26) rfl rfl rfl rfl rfl) ?_
  rintro _ _ rfl
  refine O.nil ?_
  refine J.seq ?_
  refine J.seq ?_
  refine J.region ?_
  refine O.p (Pu.move rfl) rfl ?_
  refine O.p (Pu.lss rfl rfl) rfl ?_
  refine O.p (Pu.move rfl) rfl ?_
  refine by_bool (decide (b < 1)) (fun h3 => ?_) (fun h3 => ?_)
  ·
    have p4 := of_decide_eq_true h3
    refine O.gskip (t := 13) rfl rfl (no_bool (by rw [h3]; decide)) rfl rfl ?_
    refine O.gskip (t := 13) rfl rfl (no_bool (by rw [h3]; decide)) rfl rfl ?_
    refine O.p (Pu.pickT rfl h3 rfl) rfl ?_
    refine O.p (Pu.move rfl) rfl ?_
    refine O.gskip (t := 17) rfl rfl (no_bool (by decide)) rfl rfl ?_
    refine O.gskip (t := 17) rfl rfl (no_bool (by decide)) rfl rfl ?_
    refine O.p (Pu.pickT rfl rfl rfl) rfl ?_
    refine O.p (Pu.move rfl) rfl ?_
    refine O.gskip (t := 21) rfl rfl (no_bool (by decide)) rfl rfl ?_
    refine O.gskip (t := 21) rfl rfl (no_bool (by decide)) rfl rfl ?_
    refine O.p (Pu.pickT rfl rfl rfl) rfl ?_
    refine O.nil ?_
    refine J.condT rfl rfl ?_
    refine J.seq ?_
    refine J.region ?_
    refine O.p (Pu.build [] [.int .i64 0, .int .i64 0] #[(0, 2)] Tryd.runUnderlying26 Tryd.zeroValue26 (places26 Tryd.underlying26) rfl (by kernel_rfl)) rfl ?_
    refine O.l0 (Lo.store 1 (vs := [.int .i64 0, .int .i64 0]) [.int .i64 0, .int .i64 0] rfl rfl rfl (by exact Tryd.sizeOf26) rfl rfl rfl rfl rfl) ?_
    rintro _ _ rfl
    refine O.p (Pu.assign rfl) rfl ?_
    refine O.nil ?_
    exact J.ret (Fin.ret (rs := [.cell 4 26, .tmp 5]) rfl [_, _] ⟨⟨_, _, 0, 0, _, rfl, (Cel.var 1 rfl), rfl, (Cut.agg [.int .i64 0, .int .i64 0] Tryd.isAgg26 Tryd.sizeOf26 rfl rfl)⟩, rfl, trivial⟩ [] (by decide) [] rfl ⟨(by rw [Lv.new_no (by omega)]; rfl), rfl⟩)
  ·
    have p5 := of_decide_eq_false h3
    refine O.gq (t := 13) rfl rfl h3 rfl (Pu.qt (Pu.move rfl)) rfl ?_
    refine O.gq (t := 13) rfl rfl h3 rfl (Pu.qt (Pu.gtr rfl rfl)) rfl ?_
    refine O.p (Pu.pickF rfl h3 rfl) rfl ?_
    refine O.p (Pu.move rfl) rfl ?_
    refine by_bool (decide (8 < b)) (fun h6 => ?_) (fun h6 => ?_)
    ·
      have p7 := of_decide_eq_true h6
      refine O.gskip (t := 17) rfl rfl (no_bool (by rw [h6]; decide)) rfl rfl ?_
      refine O.gskip (t := 17) rfl rfl (no_bool (by rw [h6]; decide)) rfl rfl ?_
      refine O.p (Pu.pickT rfl h6 rfl) rfl ?_
      refine O.p (Pu.move rfl) rfl ?_
      refine O.gskip (t := 21) rfl rfl (no_bool (by decide)) rfl rfl ?_
      refine O.gskip (t := 21) rfl rfl (no_bool (by decide)) rfl rfl ?_
      refine O.p (Pu.pickT rfl rfl rfl) rfl ?_
      refine O.nil ?_
      refine J.condT rfl rfl ?_
      refine J.seq ?_
      refine J.region ?_
      refine O.p (Pu.build [] [.int .i64 0, .int .i64 0] #[(0, 2)] Tryd.runUnderlying26 Tryd.zeroValue26 (places26 Tryd.underlying26) rfl (by kernel_rfl)) rfl ?_
      refine O.l0 (Lo.store 1 (vs := [.int .i64 0, .int .i64 0]) [.int .i64 0, .int .i64 0] rfl rfl rfl (by exact Tryd.sizeOf26) rfl rfl rfl rfl rfl) ?_
      rintro _ _ rfl
      refine O.p (Pu.assign rfl) rfl ?_
      refine O.nil ?_
      exact J.ret (Fin.ret (rs := [.cell 4 26, .tmp 5]) rfl [_, _] ⟨⟨_, _, 0, 0, _, rfl, (Cel.var 1 rfl), rfl, (Cut.agg [.int .i64 0, .int .i64 0] Tryd.isAgg26 Tryd.sizeOf26 rfl rfl)⟩, rfl, trivial⟩ [] (by decide) [] rfl ⟨(by rw [Lv.new_no (by omega)]; rfl), rfl⟩)
    ·
      have p8 := of_decide_eq_false h6
      refine O.gq (t := 17) rfl rfl h6 rfl (Pu.qt (Pu.move rfl)) rfl ?_
      refine O.gq (t := 17) rfl rfl h6 rfl (Pu.qt (Pu.lss rfl rfl)) rfl ?_
      refine O.p (Pu.pickF rfl h6 rfl) rfl ?_
      refine O.p (Pu.move rfl) rfl ?_
      refine by_bool (decide (c < 1)) (fun h9 => ?_) (fun h9 => ?_)
      ·
        have p10 := of_decide_eq_true h9
        refine O.gskip (t := 21) rfl rfl (no_bool (by rw [h9]; decide)) rfl rfl ?_
        refine O.gskip (t := 21) rfl rfl (no_bool (by rw [h9]; decide)) rfl rfl ?_
        refine O.p (Pu.pickT rfl h9 rfl) rfl ?_
        refine O.nil ?_
        refine J.condT rfl rfl ?_
        refine J.seq ?_
        refine J.region ?_
        refine O.p (Pu.build [] [.int .i64 0, .int .i64 0] #[(0, 2)] Tryd.runUnderlying26 Tryd.zeroValue26 (places26 Tryd.underlying26) rfl (by kernel_rfl)) rfl ?_
        refine O.l0 (Lo.store 1 (vs := [.int .i64 0, .int .i64 0]) [.int .i64 0, .int .i64 0] rfl rfl rfl (by exact Tryd.sizeOf26) rfl rfl rfl rfl rfl) ?_
        rintro _ _ rfl
        refine O.p (Pu.assign rfl) rfl ?_
        refine O.nil ?_
        exact J.ret (Fin.ret (rs := [.cell 4 26, .tmp 5]) rfl [_, _] ⟨⟨_, _, 0, 0, _, rfl, (Cel.var 1 rfl), rfl, (Cut.agg [.int .i64 0, .int .i64 0] Tryd.isAgg26 Tryd.sizeOf26 rfl rfl)⟩, rfl, trivial⟩ [] (by decide) [] rfl ⟨(by rw [Lv.new_no (by omega)]; rfl), rfl⟩)
      ·
        have p11 := of_decide_eq_false h9
        refine O.gq (t := 21) rfl rfl h9 rfl (Pu.qt (Pu.move rfl)) rfl ?_
        refine O.gq (t := 21) rfl rfl h9 rfl (Pu.qt (Pu.gtr rfl rfl)) rfl ?_
        refine O.p (Pu.pickF rfl h9 rfl) rfl ?_
        refine O.nil ?_
        refine J.cond rfl (fun h12 => ?_) (fun h12 => ?_)
        ·
          have p13 := of_decide_eq_true h12
          refine J.seq ?_
          refine J.region ?_
          refine O.p (Pu.build [] [.int .i64 0, .int .i64 0] #[(0, 2)] Tryd.runUnderlying26 Tryd.zeroValue26 (places26 Tryd.underlying26) rfl (by kernel_rfl)) rfl ?_
          refine O.l0 (Lo.store 1 (vs := [.int .i64 0, .int .i64 0]) [.int .i64 0, .int .i64 0] rfl rfl rfl (by exact Tryd.sizeOf26) rfl rfl rfl rfl rfl) ?_
          rintro _ _ rfl
          refine O.p (Pu.assign rfl) rfl ?_
          refine O.nil ?_
          exact J.ret (Fin.ret (rs := [.cell 4 26, .tmp 5]) rfl [_, _] ⟨⟨_, _, 0, 0, _, rfl, (Cel.var 1 rfl), rfl, (Cut.agg [.int .i64 0, .int .i64 0] Tryd.isAgg26 Tryd.sizeOf26 rfl rfl)⟩, rfl, trivial⟩ [] (by decide) [] rfl ⟨(by rw [Lv.new_no (by omega)]; rfl), rfl⟩)
        ·
          have p14 := of_decide_eq_false h12
          refine J.skip ?_
          refine J.seq ?_
          refine J.region ?_
          refine O.q (Qt.ld rfl (Cel.var 0 rfl) (o := 0) (off := 0) rfl (Cut.agg [.int .i64 b, .int .i64 c] Tryd.isAgg26 Tryd.sizeOf26 rfl rfl)) rfl ?_
          refine O.l0 (Lo.store 1 (vs := [.int .i64 b, .int .i64 c]) [.int .i64 b, .int .i64 c] rfl rfl rfl (by exact Tryd.sizeOf26) rfl rfl rfl rfl rfl) ?_
          rintro _ _ rfl
          refine O.p (Pu.assign rfl) rfl ?_
          refine O.nil ?_
          exact J.ret (Fin.ret (rs := [.cell 4 26, .tmp 5]) rfl [_, _] ⟨⟨_, _, 0, 0, _, rfl, (Cel.var 1 rfl), rfl, (Cut.agg [.int .i64 b, .int .i64 c] Tryd.isAgg26 Tryd.sizeOf26 rfl rfl)⟩, rfl, trivial⟩ [] (by decide) [] rfl ⟨(by rw [Lv.new_yes (by omega)]; rfl), rfl⟩)

set_option maxRecDepth 100000 in
theorem lv_Passes (l t : Int) : Tri Tryd.prog 18 #[.int .i64 l, .int .i64 t] [] [] (fun v L' => v = .bool (Lv.passes l t) ∧ L' = []) := by
  refine Tri.enter (args := [.int .i64 l, .int .i64 t]) (body := _) 12 Tryd.func18 rfl Tryd.ntmps18 rfl ?_
  intro w0
  refine J.seq ?_
  refine J.region ?_
  refine O.p (Pu.assign rfl) rfl ?_
  refine O.nil ?_
  refine J.seq ?_
  refine J.region ?_
  refine O.p (Pu.move rfl) rfl ?_
  refine O.p (Pu.geq rfl rfl) rfl ?_
  refine O.p (Pu.move rfl) rfl ?_
  refine by_bool (decide (0 ≤ l)) (fun h1 => ?_) (fun h1 => ?_)
  ·
    have p2 := of_decide_eq_true h1
    refine O.gq (t := 7) rfl rfl h1 rfl (Pu.qt (Pu.move rfl)) rfl ?_
    refine O.gq (t := 7) rfl rfl h1 rfl (Pu.qt (Pu.move rfl)) rfl ?_
    refine O.gq (t := 7) rfl rfl h1 rfl (Pu.qt (Pu.lss rfl rfl)) rfl ?_
    refine O.p (Pu.pickT rfl h1 rfl) rfl ?_
    refine O.p (Pu.assign rfl) rfl ?_
    refine O.nil ?_
    exact J.ret (Fin.ret (rs := [.tmp 4]) rfl [_] ⟨rfl, trivial⟩ [] (by decide) [] rfl ⟨(by simp [vOf, Lv.passes, *]), rfl⟩)
  ·
    have p3 := of_decide_eq_false h1
    refine O.gskip (t := 7) rfl rfl (no_bool (by rw [h1]; decide)) rfl rfl ?_
    refine O.gskip (t := 7) rfl rfl (no_bool (by rw [h1]; decide)) rfl rfl ?_
    refine O.gskip (t := 7) rfl rfl (no_bool (by rw [h1]; decide)) rfl rfl ?_
    refine O.p (Pu.pickF rfl h1 rfl) rfl ?_
    refine O.p (Pu.assign rfl) rfl ?_
    refine O.nil ?_
    exact J.ret (Fin.ret (rs := [.tmp 4]) rfl [_] ⟨rfl, trivial⟩ [] (by decide) [] rfl ⟨(by simp [vOf, Lv.passes, *]), rfl⟩)

set_option maxRecDepth 100000 in
theorem lv_Levels (b c : Int) (hg : Lv.Ok b c) : Tri Tryd.prog 10 #[.agg #[.int .i64 b, .int .i64 c]] [] [] (fun v L' => v = .int .i64 (b * c) ∧ L' = []) := by
  refine Tri.enter (args := [.agg #[.int .i64 b, .int .i64 c]]) (body := _) 8 Tryd.func10 rfl Tryd.ntmps10 rfl ?_
  intro w0
  refine J.seq ?_
  refine J.region ?_
  refine O.l (Lo.box [.int .i64 b, .int .i64 c] rfl rfl) rfl ?_
  rintro _ _ ⟨g1, rfl, rfl⟩
  refine O.p (Pu.assign rfl) rfl ?_
  refine O.nil ?_
  refine J.seq ?_
  refine J.region ?_
  refine O.p (Pu.fieldAddr (off' := 0) Tryd.runUnderlying24 rfl Tryd.sizeOf3 rfl rfl rfl) rfl ?_
  refine O.q (Qt.ld rfl (Cel.var 0 rfl) (o := 0) (off := 0) rfl (Cut.one Tryd.isAgg3 rfl)) rfl ?_
  refine O.p (Pu.fieldAddr (off' := 1) Tryd.runUnderlying24 rfl Tryd.sizeOf3 rfl rfl rfl) rfl ?_
  refine O.q (Qt.ld rfl (Cel.var 0 rfl) (o := 0) (off := 1) rfl (Cut.one Tryd.isAgg3 rfl)) rfl ?_
  refine O.p (Pu.mul' rfl rfl (by have := hg.mul; omega)) rfl ?_
  refine O.p (Pu.assign rfl) rfl ?_
  refine O.nil ?_
  exact J.ret (Fin.ret (rs := [.tmp 2]) rfl [_] ⟨rfl, trivial⟩ [] (by decide) [] rfl ⟨rfl, rfl⟩)

set_option maxRecDepth 100000 in
theorem lv_Of (b c x y : Int) (hg : Lv.Ok b c) : Tri Tryd.prog 8 #[.agg #[.int .i64 b, .int .i64 c], .int .i64 x, .int .i64 y] [] [] (fun v L' => v = .tuple #[.int .i64 (Lv.of b c x y).1, .int .i64 (Lv.of b c x y).2] ∧ L' = []) := by
  refine Tri.enter (args := [.agg #[.int .i64 b, .int .i64 c], .int .i64 x, .int .i64 y]) (body := _) 40 Tryd.func8 rfl Tryd.ntmps8 rfl ?_
  intro w0
  refine J.seq ?_
  refine J.region ?_
  refine O.l (Lo.box [.int .i64 b, .int .i64 c] rfl rfl) rfl ?_
  rintro _ _ ⟨g1, rfl, rfl⟩
  refine O.p (Pu.assign rfl) rfl ?_
  refine O.p (Pu.assign rfl) rfl ?_
  refine O.nil ?_
  refine J.seq ?_
  refine J.seq ?_
  refine J.region ?_
  refine O.q (Qt.ld rfl (Cel.var 0 rfl) (o := 0) (off := 0) rfl (Cut.agg [.int .i64 b, .int .i64 c] Tryd.isAgg26 Tryd.sizeOf26 rfl rfl)) rfl ?_
  refine O.p (Pu.build [] [.int .i64 0, .int .i64 0] #[(0, 2)] Tryd.runUnderlying26 Tryd.zeroValue26 (places26 Tryd.underlying26) rfl (by kernel_rfl)) rfl ?_
  refine O.p (Pu.eqlW [b, c] [0, 0] Tryd.underlying26 Tryd.stoodInHeld26 Tryd.eqGuardType26 rfl rfl Tryd.underlying24 Tryd.stoodInHeld24 (fint24 Tryd.underlying24) Tryd.sizeOf24 rfl rfl rfl rfl) rfl ?_
  refine O.p (Pu.move rfl) rfl ?_
  refine by_bool (decide (([b, c] : List Int) = [0, 0])) (fun h2 => ?_) (fun h2 => ?_)
  ·
    have p3 := of_decide_eq_true h2
    refine O.gskip (t := 11) rfl rfl (no_bool (by rw [h2]; decide)) rfl rfl ?_
    refine O.gskip (t := 11) rfl rfl (no_bool (by rw [h2]; decide)) rfl rfl ?_
    refine O.p (Pu.pickT rfl h2 rfl) rfl ?_
    refine O.p (Pu.move rfl) rfl ?_
    refine O.gskip (t := 15) rfl rfl (no_bool (by decide)) rfl rfl ?_
    refine O.gskip (t := 15) rfl rfl (no_bool (by decide)) rfl rfl ?_
    refine O.gskip (t := 15) rfl rfl (no_bool (by decide)) rfl rfl ?_
    refine O.gskip (t := 15) rfl rfl (no_bool (by decide)) rfl rfl ?_
    refine O.gskip (t := 15) rfl rfl (no_bool (by decide)) rfl rfl ?_
    refine O.p (Pu.pickT rfl rfl rfl) rfl ?_
    refine O.p (Pu.move rfl) rfl ?_
    refine O.gskip (t := 22) rfl rfl (no_bool (by decide)) rfl rfl ?_
    refine O.gskip (t := 22) rfl rfl (no_bool (by decide)) rfl rfl ?_
    refine O.p (Pu.pickT rfl rfl rfl) rfl ?_
    refine O.p (Pu.move rfl) rfl ?_
    refine O.gskip (t := 26) rfl rfl (no_bool (by decide)) rfl rfl ?_
    refine O.gskip (t := 26) rfl rfl (no_bool (by decide)) rfl rfl ?_
    refine O.gskip (t := 26) rfl rfl (no_bool (by decide)) rfl rfl ?_
    refine O.gskip (t := 26) rfl rfl (no_bool (by decide)) rfl rfl ?_
    refine O.gskip (t := 26) rfl rfl (no_bool (by decide)) rfl rfl ?_
    refine O.p (Pu.pickT rfl rfl rfl) rfl ?_
    refine O.nil ?_
    refine J.condT rfl rfl ?_
    refine J.seq ?_
    refine J.region ?_
    refine O.p (Pu.assign rfl) rfl ?_
    refine O.p (Pu.assign rfl) rfl ?_
    refine O.nil ?_
    exact J.ret (Fin.ret (rs := [.tmp 6, .tmp 7]) rfl [_, _] ⟨rfl, rfl, trivial⟩ [] (by decide) [] rfl ⟨(by first | (rw [Lv.of_no (by omega)]; rfl) | (rw [Lv.of_zero (by assumption)]; rfl)), rfl⟩)
  ·
    have p4 := of_decide_eq_false h2
    refine O.gq (t := 11) rfl rfl h2 rfl (Pu.qt (Pu.move rfl)) rfl ?_
    refine O.gq (t := 11) rfl rfl h2 rfl (Pu.qt (Pu.lss rfl rfl)) rfl ?_
    refine O.p (Pu.pickF rfl h2 rfl) rfl ?_
    refine O.p (Pu.move rfl) rfl ?_
    refine by_bool (decide (x < 0)) (fun h5 => ?_) (fun h5 => ?_)
    ·
      have p6 := of_decide_eq_true h5
      refine O.gskip (t := 15) rfl rfl (no_bool (by rw [h5]; decide)) rfl rfl ?_
      refine O.gskip (t := 15) rfl rfl (no_bool (by rw [h5]; decide)) rfl rfl ?_
      refine O.gskip (t := 15) rfl rfl (no_bool (by rw [h5]; decide)) rfl rfl ?_
      refine O.gskip (t := 15) rfl rfl (no_bool (by rw [h5]; decide)) rfl rfl ?_
      refine O.gskip (t := 15) rfl rfl (no_bool (by rw [h5]; decide)) rfl rfl ?_
      refine O.p (Pu.pickT rfl h5 rfl) rfl ?_
      refine O.p (Pu.move rfl) rfl ?_
      refine O.gskip (t := 22) rfl rfl (no_bool (by decide)) rfl rfl ?_
      refine O.gskip (t := 22) rfl rfl (no_bool (by decide)) rfl rfl ?_
      refine O.p (Pu.pickT rfl rfl rfl) rfl ?_
      refine O.p (Pu.move rfl) rfl ?_
      refine O.gskip (t := 26) rfl rfl (no_bool (by decide)) rfl rfl ?_
      refine O.gskip (t := 26) rfl rfl (no_bool (by decide)) rfl rfl ?_
      refine O.gskip (t := 26) rfl rfl (no_bool (by decide)) rfl rfl ?_
      refine O.gskip (t := 26) rfl rfl (no_bool (by decide)) rfl rfl ?_
      refine O.gskip (t := 26) rfl rfl (no_bool (by decide)) rfl rfl ?_
      refine O.p (Pu.pickT rfl rfl rfl) rfl ?_
      refine O.nil ?_
      refine J.condT rfl rfl ?_
      refine J.seq ?_
      refine J.region ?_
      refine O.p (Pu.assign rfl) rfl ?_
      refine O.p (Pu.assign rfl) rfl ?_
      refine O.nil ?_
      exact J.ret (Fin.ret (rs := [.tmp 6, .tmp 7]) rfl [_, _] ⟨rfl, rfl, trivial⟩ [] (by decide) [] rfl ⟨(by first | (rw [Lv.of_no (by omega)]; rfl) | (rw [Lv.of_zero (by assumption)]; rfl)), rfl⟩)
    ·
      have p7 := of_decide_eq_false h5
      refine O.gq (t := 15) rfl rfl h5 rfl (Pu.qt (Pu.move rfl)) rfl ?_
      refine O.gq (t := 15) rfl rfl h5 rfl (Pu.qt (Pu.fieldAddr (off' := 0) Tryd.runUnderlying26 rfl Tryd.sizeOf24 rfl rfl rfl)) rfl ?_
      refine O.gq (t := 15) rfl rfl h5 rfl (Pu.qt (Pu.fieldAddr (off' := 0) Tryd.runUnderlying24 rfl Tryd.sizeOf3 rfl rfl rfl)) rfl ?_
      refine O.gq (t := 15) rfl rfl h5 rfl (Qt.ld rfl (Cel.var 0 rfl) (o := 0) (off := 0) rfl (Cut.one Tryd.isAgg3 rfl)) rfl ?_
      refine O.gq (t := 15) rfl rfl h5 rfl (Pu.qt (Pu.geq rfl rfl)) rfl ?_
      refine O.p (Pu.pickF rfl h5 rfl) rfl ?_
      refine O.p (Pu.move rfl) rfl ?_
      refine by_bool (decide (b ≤ x)) (fun h8 => ?_) (fun h8 => ?_)
      ·
        have p9 := of_decide_eq_true h8
        refine O.gskip (t := 22) rfl rfl (no_bool (by rw [h8]; decide)) rfl rfl ?_
        refine O.gskip (t := 22) rfl rfl (no_bool (by rw [h8]; decide)) rfl rfl ?_
        refine O.p (Pu.pickT rfl h8 rfl) rfl ?_
        refine O.p (Pu.move rfl) rfl ?_
        refine O.gskip (t := 26) rfl rfl (no_bool (by decide)) rfl rfl ?_
        refine O.gskip (t := 26) rfl rfl (no_bool (by decide)) rfl rfl ?_
        refine O.gskip (t := 26) rfl rfl (no_bool (by decide)) rfl rfl ?_
        refine O.gskip (t := 26) rfl rfl (no_bool (by decide)) rfl rfl ?_
        refine O.gskip (t := 26) rfl rfl (no_bool (by decide)) rfl rfl ?_
        refine O.p (Pu.pickT rfl rfl rfl) rfl ?_
        refine O.nil ?_
        refine J.condT rfl rfl ?_
        refine J.seq ?_
        refine J.region ?_
        refine O.p (Pu.assign rfl) rfl ?_
        refine O.p (Pu.assign rfl) rfl ?_
        refine O.nil ?_
        exact J.ret (Fin.ret (rs := [.tmp 6, .tmp 7]) rfl [_, _] ⟨rfl, rfl, trivial⟩ [] (by decide) [] rfl ⟨(by first | (rw [Lv.of_no (by omega)]; rfl) | (rw [Lv.of_zero (by assumption)]; rfl)), rfl⟩)
      ·
        have p10 := of_decide_eq_false h8
        refine O.gq (t := 22) rfl rfl h8 rfl (Pu.qt (Pu.move rfl)) rfl ?_
        refine O.gq (t := 22) rfl rfl h8 rfl (Pu.qt (Pu.lss rfl rfl)) rfl ?_
        refine O.p (Pu.pickF rfl h8 rfl) rfl ?_
        refine O.p (Pu.move rfl) rfl ?_
        refine by_bool (decide (y < 0)) (fun h11 => ?_) (fun h11 => ?_)
        ·
          have p12 := of_decide_eq_true h11
          refine O.gskip (t := 26) rfl rfl (no_bool (by rw [h11]; decide)) rfl rfl ?_
          refine O.gskip (t := 26) rfl rfl (no_bool (by rw [h11]; decide)) rfl rfl ?_
          refine O.gskip (t := 26) rfl rfl (no_bool (by rw [h11]; decide)) rfl rfl ?_
          refine O.gskip (t := 26) rfl rfl (no_bool (by rw [h11]; decide)) rfl rfl ?_
          refine O.gskip (t := 26) rfl rfl (no_bool (by rw [h11]; decide)) rfl rfl ?_
          refine O.p (Pu.pickT rfl h11 rfl) rfl ?_
          refine O.nil ?_
          refine J.condT rfl rfl ?_
          refine J.seq ?_
          refine J.region ?_
          refine O.p (Pu.assign rfl) rfl ?_
          refine O.p (Pu.assign rfl) rfl ?_
          refine O.nil ?_
          exact J.ret (Fin.ret (rs := [.tmp 6, .tmp 7]) rfl [_, _] ⟨rfl, rfl, trivial⟩ [] (by decide) [] rfl ⟨(by first | (rw [Lv.of_no (by omega)]; rfl) | (rw [Lv.of_zero (by assumption)]; rfl)), rfl⟩)
        ·
          have p13 := of_decide_eq_false h11
          refine O.gq (t := 26) rfl rfl h11 rfl (Pu.qt (Pu.move rfl)) rfl ?_
          refine O.gq (t := 26) rfl rfl h11 rfl (Pu.qt (Pu.fieldAddr (off' := 0) Tryd.runUnderlying26 rfl Tryd.sizeOf24 rfl rfl rfl)) rfl ?_
          refine O.gq (t := 26) rfl rfl h11 rfl (Pu.qt (Pu.fieldAddr (off' := 1) Tryd.runUnderlying24 rfl Tryd.sizeOf3 rfl rfl rfl)) rfl ?_
          refine O.gq (t := 26) rfl rfl h11 rfl (Qt.ld rfl (Cel.var 0 rfl) (o := 0) (off := 1) rfl (Cut.one Tryd.isAgg3 rfl)) rfl ?_
          refine O.gq (t := 26) rfl rfl h11 rfl (Pu.qt (Pu.geq rfl rfl)) rfl ?_
          refine O.p (Pu.pickF rfl h11 rfl) rfl ?_
          refine O.nil ?_
          refine J.cond rfl (fun h14 => ?_) (fun h14 => ?_)
          ·
            have p15 := of_decide_eq_true h14
            refine J.seq ?_
            refine J.region ?_
            refine O.p (Pu.assign rfl) rfl ?_
            refine O.p (Pu.assign rfl) rfl ?_
            refine O.nil ?_
            exact J.ret (Fin.ret (rs := [.tmp 6, .tmp 7]) rfl [_, _] ⟨rfl, rfl, trivial⟩ [] (by decide) [] rfl ⟨(by first | (rw [Lv.of_no (by omega)]; rfl) | (rw [Lv.of_zero (by assumption)]; rfl)), rfl⟩)
          ·
            have p16 := of_decide_eq_false h14
            refine J.skip ?_
            refine J.seq ?_
            refine J.region ?_
            refine O.p (Pu.move rfl) rfl ?_
            refine O.p (Pu.fieldAddr (off' := 0) Tryd.runUnderlying26 rfl Tryd.sizeOf24 rfl rfl rfl) rfl ?_
            refine O.p (Pu.fieldAddr (off' := 1) Tryd.runUnderlying24 rfl Tryd.sizeOf3 rfl rfl rfl) rfl ?_
            refine O.q (Qt.ld rfl (Cel.var 0 rfl) (o := 0) (off := 1) rfl (Cut.one Tryd.isAgg3 rfl)) rfl ?_
            refine O.p (Pu.mul' rfl rfl (by first | omega | (have h_ := hg.row (x := x) (by omega) (by omega) y (by omega) (by omega); omega))) rfl ?_
            refine O.p (Pu.move rfl) rfl ?_
            refine O.p (Pu.add' rfl rfl (by first | omega | (have h_ := hg.row (x := x) (by omega) (by omega) y (by omega) (by omega); omega))) rfl ?_
            refine O.p (Pu.assign rfl) rfl ?_
            refine O.p (Pu.assign rfl) rfl ?_
            refine O.nil ?_
            exact J.ret (Fin.ret (rs := [.tmp 6, .tmp 7]) rfl [_, _] ⟨rfl, rfl, trivial⟩ [] (by decide) [] rfl ⟨(by rw [Lv.of_yes (by omega)]; rfl), rfl⟩)

set_option maxRecDepth 100000 in
theorem lv_Split (b c l : Int) (hg : Lv.Ok b c) : Tri Tryd.prog 9 #[.agg #[.int .i64 b, .int .i64 c], .int .i64 l] [] [] (fun v L' => v = .tuple #[.int .i64 (Lv.split b c l).1, .int .i64 (Lv.split b c l).2.1, .int .i64 (Lv.split b c l).2.2] ∧ L' = []) := by
  refine Tri.enter (args := [.agg #[.int .i64 b, .int .i64 c], .int .i64 l]) (body := _) 23 Tryd.func9 rfl Tryd.ntmps9 rfl ?_
  intro w0
  refine J.seq ?_
  refine J.region ?_
  refine O.l (Lo.box [.int .i64 b, .int .i64 c] rfl rfl) rfl ?_
  rintro _ _ ⟨g1, rfl, rfl⟩
  refine O.p (Pu.assign rfl) rfl ?_
  refine O.p (Pu.assign rfl) rfl ?_
  refine O.p (Pu.assign rfl) rfl ?_
  refine O.nil ?_
  refine J.seq ?_
  refine J.seq ?_
  refine J.region ?_
  refine O.p (Pu.move rfl) rfl ?_
  refine O.p (Pu.fieldAddr (off' := 0) Tryd.runUnderlying26 rfl Tryd.sizeOf24 rfl rfl rfl) rfl ?_
  refine O.q (Qt.ld rfl (Cel.var 0 rfl) (o := 0) (off := 0) rfl (Cut.agg [.int .i64 b, .int .i64 c] Tryd.isAgg24 Tryd.sizeOf24 rfl rfl)) rfl ?_
  refine O.l (Lo.call [.agg #[.int .i64 b, .int .i64 c]] (by exact Tryd.call10) rfl (lv_Levels b c (by first | assumption | exact Lv.new_ok)) [] [0] (by decide) rfl _ rfl RoOk.nil) rfl ?_
  rintro _ _ ⟨_, ⟨rfl, rfl⟩, rfl⟩
  refine O.l (Lo.call [.int .i64 l, .int .i64 (b * c)] (by exact Tryd.call18) rfl (lv_Passes l (b * c)) [] [0] (by decide) rfl _ rfl RoOk.nil) rfl ?_
  rintro _ _ ⟨_, ⟨rfl, rfl⟩, rfl⟩
  refine O.p (Pu.not rfl) rfl ?_
  refine O.nil ?_
  refine J.cond rfl (fun h4 => ?_) (fun h4 => ?_)
  ·
    have h5 : (Lv.passes l (b * c)) = false := not_flip h4
    refine J.seq ?_
    refine J.region ?_
    refine O.p (Pu.assign rfl) rfl ?_
    refine O.p (Pu.assign rfl) rfl ?_
    refine O.p (Pu.assign rfl) rfl ?_
    refine O.nil ?_
    exact J.ret (Fin.ret (rs := [.tmp 4, .tmp 5, .tmp 6]) rfl [_, _, _] ⟨rfl, rfl, rfl, trivial⟩ [] (by decide) [] rfl ⟨(by rw [Lv.split_no (by assumption)]; rfl), rfl⟩)
  ·
    have h6 : (Lv.passes l (b * c)) = true := not_flip h4
    refine J.skip ?_
    refine J.seq ?_
    refine J.drawStill Tryd.mixed (by kernel_rfl) ?_
    refine S.p (Pu.move rfl) rfl ?_
    refine S.p (Pu.fieldAddr (off' := 0) Tryd.runUnderlying26 rfl Tryd.sizeOf24 rfl rfl rfl) rfl ?_
    refine S.p (Pu.fieldAddr (off' := 1) Tryd.runUnderlying24 rfl Tryd.sizeOf3 rfl rfl rfl) rfl ?_
    refine S.q (Qt.ld rfl (Cel.var 0 rfl) (o := 0) (off := 1) rfl (Cut.one Tryd.isAgg3 rfl)) rfl ?_
    refine S.p (Pu.quo' rfl rfl (by have h_ := hg.at (by assumption); omega) (by have h_ := hg.at (by assumption); omega) (by have h_ := hg.at (by assumption); omega)) rfl ?_
    refine S.p (Pu.move rfl) rfl ?_
    refine S.p (Pu.fieldAddr (off' := 0) Tryd.runUnderlying26 rfl Tryd.sizeOf24 rfl rfl rfl) rfl ?_
    refine S.p (Pu.fieldAddr (off' := 1) Tryd.runUnderlying24 rfl Tryd.sizeOf3 rfl rfl rfl) rfl ?_
    refine S.q (Qt.ld rfl (Cel.var 0 rfl) (o := 0) (off := 1) rfl (Cut.one Tryd.isAgg3 rfl)) rfl ?_
    refine S.p (Pu.rem' rfl rfl (by have h_ := hg.at (by assumption); omega) (by have h_ := hg.at (by assumption); omega)) rfl ?_
    refine S.p (Pu.assign rfl) rfl ?_
    refine S.p (Pu.assign rfl) rfl ?_
    refine S.p (Pu.assign rfl) rfl ?_
    refine S.endJ ?_
    exact J.ret (Fin.ret (rs := [.tmp 4, .tmp 5, .tmp 6]) rfl [_, _, _] ⟨rfl, rfl, rfl, trivial⟩ [] (by decide) [] rfl ⟨(by rw [Lv.split_yes (by assumption)]; rfl), rfl⟩)

set_option maxRecDepth 100000 in
theorem lv_Text (b c l : Int) (hg : Lv.Ok b c) : Tri Tryd.prog 14 #[.agg #[.int .i64 b, .int .i64 c], .int .i64 l] [libW] [] (fun v L' => v = .tuple #[str (Lv.text b c l).1, .int .i64 (Lv.text b c l).2] ∧ L' = []) := by
  refine Tri.enter (args := [.agg #[.int .i64 b, .int .i64 c], .int .i64 l]) (body := _) 25 Tryd.func14 rfl Tryd.ntmps14 rfl ?_
  intro w0
  refine J.seq ?_
  refine J.region ?_
  refine O.l (Lo.box [.int .i64 b, .int .i64 c] rfl rfl) rfl ?_
  rintro _ _ ⟨g1, rfl, rfl⟩
  refine O.p (Pu.assign rfl) rfl ?_
  refine O.p (Pu.assign rfl) rfl ?_
  refine O.nil ?_
  refine J.seq ?_
  refine J.region ?_
  refine O.q (Qt.ld rfl (Cel.var 0 rfl) (o := 0) (off := 0) rfl (Cut.agg [.int .i64 b, .int .i64 c] Tryd.isAgg26 Tryd.sizeOf26 rfl rfl)) rfl ?_
  refine O.p (Pu.move rfl) rfl ?_
  refine O.l (Lo.call [.agg #[.int .i64 b, .int .i64 c], .int .i64 l] (by exact Tryd.call9) rfl (lv_Split b c l (by first | assumption | exact Lv.new_ok)) [] [0] (by decide) rfl _ rfl RoOk.nil) rfl ?_
  rintro _ _ ⟨_, ⟨rfl, rfl⟩, rfl⟩
  refine O.p (Pu.move rfl) rfl ?_
  refine O.p (Pu.extract rfl rfl) rfl ?_
  refine O.p (Pu.extract rfl rfl) rfl ?_
  refine O.p (Pu.extract rfl rfl) rfl ?_
  refine O.p (Pu.assign rfl) rfl ?_
  refine O.p (Pu.assign rfl) rfl ?_
  refine O.p (Pu.assign rfl) rfl ?_
  refine O.nil ?_
  refine J.seq ?_
  refine J.seq ?_
  refine J.region ?_
  refine O.p (Pu.move rfl) rfl ?_
  refine O.p (Pu.neq rfl rfl) rfl ?_
  refine O.nil ?_
  refine J.cond rfl (fun h3 => ?_) (fun h3 => ?_)
  ·
    have p4 := of_decide_eq_true h3
    refine J.seq ?_
    refine J.region ?_
    refine O.p (Pu.move rfl) rfl ?_
    refine O.p (Pu.assign rfl) rfl ?_
    refine O.p (Pu.assign rfl) rfl ?_
    refine O.nil ?_
    exact J.ret (Fin.ret (rs := [.tmp 4, .tmp 5]) rfl [_, _] ⟨rfl, rfl, trivial⟩ [] (by decide) [] rfl ⟨(by rw [Lv.text_no (by omega)]; rfl), rfl⟩)
  ·
    have p5 := of_decide_eq_false h3
    refine J.skip ?_
    refine J.seq ?_
    refine J.region ?_
    refine O.p (Pu.move rfl) rfl ?_
    refine O.l (Lo.call [.int .i64 ((Lv.split b c l).1)] (by exact Tryd.call19) rfl (dec_Text ((Lv.split b c l).1) (by first | omega | (have := hg.parts l; omega)) (by first | omega | (have := hg.parts l; omega))) [] [0] (by decide) rfl _ rfl (RoOk.ro 0 rfl [] rfl RoOk.nil)) rfl ?_
    rintro _ _ ⟨_, ⟨rfl, rfl⟩, rfl⟩
    refine O.p (Pu.sAdd rfl rfl (by have h_ := hg.parts l; have h1_ := Lv.itoa_len h_.1 h_.2.1; have h2_ := Lv.itoa_len h_.2.2.1 h_.2.2.2; simp only [List.length_append, List.length_cons, List.length_nil]; omega)) rfl ?_
    refine O.p (Pu.move rfl) rfl ?_
    refine O.l (Lo.call [.int .i64 ((Lv.split b c l).2.1)] (by exact Tryd.call19) rfl (dec_Text ((Lv.split b c l).2.1) (by first | omega | (have := hg.parts l; omega)) (by first | omega | (have := hg.parts l; omega))) [] [0] (by decide) rfl _ rfl (RoOk.ro 0 rfl [] rfl RoOk.nil)) rfl ?_
    rintro _ _ ⟨_, ⟨rfl, rfl⟩, rfl⟩
    refine O.p (Pu.sAdd rfl rfl (by have h_ := hg.parts l; have h1_ := Lv.itoa_len h_.1 h_.2.1; have h2_ := Lv.itoa_len h_.2.2.1 h_.2.2.2; simp only [List.length_append, List.length_cons, List.length_nil]; omega)) rfl ?_
    refine O.p (Pu.assign rfl) rfl ?_
    refine O.p (Pu.assign rfl) rfl ?_
    refine O.nil ?_
    exact J.ret (Fin.ret (rs := [.tmp 4, .tmp 5]) rfl [_, _] ⟨rfl, rfl, trivial⟩ [] (by decide) [] rfl ⟨(by rw [Lv.text_yes (by omega)]; rfl), rfl⟩)

set_option maxRecDepth 100000 in
theorem lv_Parse (b c : Int) (s : List UInt8) (hg : Lv.Ok b c) (hs : s.length ≤ 1000000) : Tri Tryd.prog 16 #[.agg #[.int .i64 b, .int .i64 c], str s] [libW] [] (fun v L' => v = .tuple #[.int .i64 (Lv.parse b c s).1, .int .i64 (Lv.parse b c s).2] ∧ L' = []) := by
  refine Tri.enter (args := [.agg #[.int .i64 b, .int .i64 c], str s]) (body := _) 42 Tryd.func16 rfl Tryd.ntmps16 rfl ?_
  intro w0
  refine J.seq ?_
  refine J.region ?_
  refine O.l (Lo.box [.int .i64 b, .int .i64 c] rfl rfl) rfl ?_
  rintro _ _ ⟨g1, rfl, rfl⟩
  refine O.p (Pu.assign rfl) rfl ?_
  refine O.p (Pu.assign rfl) rfl ?_
  refine O.nil ?_
  refine J.seq ?_
  refine J.region ?_
  refine O.p (Pu.move rfl) rfl ?_
  refine O.l (Lo.call [str s, str ([46])] (by exact Tryd.call21) rfl (s_Cut s ([46]) (by first | omega | (have := Lv.cut_len s [46]; omega))) [] [0] (by decide) rfl _ rfl (RoOk.ro 0 rfl [] rfl RoOk.nil)) rfl ?_
  rintro _ _ ⟨_, ⟨rfl, rfl⟩, rfl⟩
  refine O.p (Pu.move rfl) rfl ?_
  refine O.p (Pu.extract rfl rfl) rfl ?_
  refine O.p (Pu.extract rfl rfl) rfl ?_
  refine O.p (Pu.extract rfl rfl) rfl ?_
  refine O.p (Pu.assign rfl) rfl ?_
  refine O.p (Pu.assign rfl) rfl ?_
  refine O.p (Pu.assign rfl) rfl ?_
  refine O.nil ?_
  refine J.seq ?_
  refine J.seq ?_
  refine J.region ?_
  refine O.p (Pu.move rfl) rfl ?_
  refine O.p (Pu.not rfl) rfl ?_
  refine O.nil ?_
  refine J.cond rfl (fun h3 => ?_) (fun h3 => ?_)
  ·
    have h4 : ((Lib.cut s ([46])).2.2) = false := not_flip h3
    refine J.seq ?_
    refine J.region ?_
    refine O.p (Pu.assign rfl) rfl ?_
    refine O.p (Pu.assign rfl) rfl ?_
    refine O.nil ?_
    exact J.ret (Fin.ret (rs := [.tmp 4, .tmp 5]) rfl [_, _] ⟨rfl, rfl, trivial⟩ [] (by decide) [] rfl ⟨(by first | (rw [Lv.parse_all (by assumption) (by omega) (by omega)]; rfl) | (rw [Lv.parse_nocut (by assumption)]; rfl) | (rw [Lv.parse_first (by assumption) (by omega)]; rfl) | (rw [Lv.parse_second (by assumption) (by omega) (by omega)]; rfl)), rfl⟩)
  ·
    have h5 : ((Lib.cut s ([46])).2.2) = true := not_flip h3
    refine J.skip ?_
    refine J.seq ?_
    refine J.region ?_
    refine O.p (Pu.move rfl) rfl ?_
    refine O.l (Lo.call [str ((Lib.cut s ([46])).1)] (by exact Tryd.call22) rfl (dec_Parse ((Lib.cut s ([46])).1) (by first | omega | (have := Lv.cut_len s [46]; omega))) [] [0] (by decide) rfl _ rfl (RoOk.ro 0 rfl [] rfl RoOk.nil)) rfl ?_
    rintro _ _ ⟨_, ⟨rfl, rfl⟩, rfl⟩
    refine O.p (Pu.move rfl) rfl ?_
    refine O.p (Pu.extract rfl rfl) rfl ?_
    refine O.p (Pu.extract rfl rfl) rfl ?_
    refine O.p (Pu.assign rfl) rfl ?_
    refine O.p (Pu.assign rfl) rfl ?_
    refine O.nil ?_
    refine J.seq ?_
    refine J.seq ?_
    refine J.region ?_
    refine O.p (Pu.move rfl) rfl ?_
    refine O.p (Pu.neq rfl rfl) rfl ?_
    refine O.nil ?_
    refine J.cond rfl (fun h7 => ?_) (fun h7 => ?_)
    ·
      have p8 := of_decide_eq_true h7
      refine J.seq ?_
      refine J.region ?_
      refine O.p (Pu.move rfl) rfl ?_
      refine O.p (Pu.assign rfl) rfl ?_
      refine O.p (Pu.assign rfl) rfl ?_
      refine O.nil ?_
      exact J.ret (Fin.ret (rs := [.tmp 4, .tmp 5]) rfl [_, _] ⟨rfl, rfl, trivial⟩ [] (by decide) [] rfl ⟨(by first | (rw [Lv.parse_all (by assumption) (by omega) (by omega)]; rfl) | (rw [Lv.parse_nocut (by assumption)]; rfl) | (rw [Lv.parse_first (by assumption) (by omega)]; rfl) | (rw [Lv.parse_second (by assumption) (by omega) (by omega)]; rfl)), rfl⟩)
    ·
      have p9 := of_decide_eq_false h7
      refine J.skip ?_
      refine J.seq ?_
      refine J.region ?_
      refine O.p (Pu.move rfl) rfl ?_
      refine O.l (Lo.call [str ((Lib.cut s ([46])).2.1)] (by exact Tryd.call22) rfl (dec_Parse ((Lib.cut s ([46])).2.1) (by first | omega | (have := Lv.cut_len s [46]; omega))) [] [0] (by decide) rfl _ rfl (RoOk.ro 0 rfl [] rfl RoOk.nil)) rfl ?_
      rintro _ _ ⟨_, ⟨rfl, rfl⟩, rfl⟩
      refine O.p (Pu.move rfl) rfl ?_
      refine O.p (Pu.extract rfl rfl) rfl ?_
      refine O.p (Pu.extract rfl rfl) rfl ?_
      refine O.p (Pu.assign rfl) rfl ?_
      refine O.p (Pu.assign rfl) rfl ?_
      refine O.nil ?_
      refine J.seq ?_
      refine J.seq ?_
      refine J.region ?_
      refine O.p (Pu.move rfl) rfl ?_
      refine O.p (Pu.neq rfl rfl) rfl ?_
      refine O.nil ?_
      refine J.cond rfl (fun h11 => ?_) (fun h11 => ?_)
      ·
        have p12 := of_decide_eq_true h11
        refine J.seq ?_
        refine J.region ?_
        refine O.p (Pu.move rfl) rfl ?_
        refine O.p (Pu.assign rfl) rfl ?_
        refine O.p (Pu.assign rfl) rfl ?_
        refine O.nil ?_
        exact J.ret (Fin.ret (rs := [.tmp 4, .tmp 5]) rfl [_, _] ⟨rfl, rfl, trivial⟩ [] (by decide) [] rfl ⟨(by first | (rw [Lv.parse_all (by assumption) (by omega) (by omega)]; rfl) | (rw [Lv.parse_nocut (by assumption)]; rfl) | (rw [Lv.parse_first (by assumption) (by omega)]; rfl) | (rw [Lv.parse_second (by assumption) (by omega) (by omega)]; rfl)), rfl⟩)
      ·
        have p13 := of_decide_eq_false h11
        refine J.skip ?_
        refine J.seq ?_
        refine J.region ?_
        refine O.q (Qt.ld rfl (Cel.var 0 rfl) (o := 0) (off := 0) rfl (Cut.agg [.int .i64 b, .int .i64 c] Tryd.isAgg26 Tryd.sizeOf26 rfl rfl)) rfl ?_
        refine O.p (Pu.move rfl) rfl ?_
        refine O.p (Pu.move rfl) rfl ?_
        refine O.l (Lo.call [.agg #[.int .i64 b, .int .i64 c], .int .i64 ((Dc.parse ((Lib.cut s ([46])).1)).1), .int .i64 ((Dc.parse ((Lib.cut s ([46])).2.1)).1)] (by exact Tryd.call8) rfl (lv_Of b c ((Dc.parse ((Lib.cut s ([46])).1)).1) ((Dc.parse ((Lib.cut s ([46])).2.1)).1) (by first | assumption | exact Lv.new_ok)) [] [0] (by decide) rfl _ rfl RoOk.nil) rfl ?_
        rintro _ _ ⟨_, ⟨rfl, rfl⟩, rfl⟩
        refine O.p (Pu.extract rfl rfl) rfl ?_
        refine O.p (Pu.extract rfl rfl) rfl ?_
        refine O.p (Pu.assign rfl) rfl ?_
        refine O.p (Pu.assign rfl) rfl ?_
        refine O.nil ?_
        exact J.ret (Fin.ret (rs := [.tmp 4, .tmp 5]) rfl [_, _] ⟨rfl, rfl, trivial⟩ [] (by decide) [] rfl ⟨(by first | (rw [Lv.parse_all (by assumption) (by omega) (by omega)]; rfl) | (rw [Lv.parse_nocut (by assumption)]; rfl) | (rw [Lv.parse_first (by assumption) (by omega)]; rfl) | (rw [Lv.parse_second (by assumption) (by omega) (by omega)]; rfl)), rfl⟩)

end Go.Proofs.YtcojpllfkobkeaaDoor
