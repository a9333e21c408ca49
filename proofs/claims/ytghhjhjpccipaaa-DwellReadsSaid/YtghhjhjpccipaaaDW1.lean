/-
  Walks, printed by a program of mine (lk.py): each function meets its contract.
-/
import Derived.KernelRfl
import Derived.Test.YtghhjhjpccipaaaNums44
import Derived.Test.YtghhjhjpccipaaaDwell0
namespace Go.Proofs.Ytghhjhjpccipaaa
open Go Go.LK

set_option maxRecDepth 100000 in
theorem cmp_nan (x : Int) : Tri Try.prog 111 #[.int .i64 x] [] [] (fun v L' => v = .bool false ∧ L' = []) := by
  refine Tri.enter (args := [.int .i64 x]) (body := _) 6 Try.func111 rfl Try.ntmps111 rfl ?_
  intro w0
  refine J.seq ?_
  refine J.region ?_
  refine O.p (Pu.assign rfl) rfl ?_
  refine O.nil ?_
  refine J.seq ?_
  refine J.region ?_
  refine O.p (Pu.move rfl) rfl ?_
  refine O.p (Pu.move rfl) rfl ?_
  refine O.p (Pu.neq rfl rfl) rfl ?_
  refine O.p (Pu.assign rfl) rfl ?_
  refine O.nil ?_
  exact J.ret (Fin.ret (rs := [.tmp 2]) rfl [_] ⟨rfl, trivial⟩ [] (by decide) [] rfl ⟨by simp [vOf], rfl⟩)

set_option maxRecDepth 100000 in
theorem cmp_compare (x y : Int) : Tri Try.prog 89 #[.int .i64 x, .int .i64 y] [] [] (fun v L' => v = .int .i64 (Dw.cmp x y) ∧ L' = []) := by
  refine Tri.enter (args := [.int .i64 x, .int .i64 y]) (body := _) 20 Try.func89 rfl Try.ntmps89 rfl ?_
  intro w0
  refine J.seq ?_
  refine J.region ?_
  refine O.p (Pu.assign rfl) rfl ?_
  refine O.nil ?_
  refine J.seq ?_
  refine J.region ?_
  refine O.p (Pu.move rfl) rfl ?_
  refine O.l (Lo.call [.int .i64 x] (by exact Try.call111) rfl (cmp_nan x) [] [] (by decide) rfl _ rfl RoOk.nil) rfl ?_
  rintro _ _ ⟨_, ⟨rfl, rfl⟩, rfl⟩
  refine O.p (Pu.assign rfl) rfl ?_
  refine O.nil ?_
  refine J.seq ?_
  refine J.region ?_
  refine O.p (Pu.move rfl) rfl ?_
  refine O.l (Lo.call [.int .i64 y] (by exact Try.call111) rfl (cmp_nan y) [] [] (by decide) rfl _ rfl RoOk.nil) rfl ?_
  rintro _ _ ⟨_, ⟨rfl, rfl⟩, rfl⟩
  refine O.p (Pu.assign rfl) rfl ?_
  refine O.nil ?_
  refine J.seq ?_
  refine J.seq ?_
  refine J.region ?_
  refine O.p (Pu.move rfl) rfl ?_
  refine O.nil ?_
  refine J.condF rfl rfl ?_
  refine J.skip ?_
  refine J.seq ?_
  refine J.seq ?_
  refine J.region ?_
  refine O.p (Pu.move rfl) rfl ?_
  refine O.nil ?_
  refine J.condF rfl rfl ?_
  refine J.skip ?_
  refine J.seq ?_
  refine J.seq ?_
  refine J.region ?_
  refine O.p (Pu.move rfl) rfl ?_
  refine O.p (Pu.move rfl) rfl ?_
  refine O.p (Pu.lss rfl rfl) rfl ?_
  refine O.nil ?_
  refine J.cond rfl (fun h3 => ?_) (fun h3 => ?_)
  ·
    have p4 := of_decide_eq_true h3
    refine J.seq ?_
    refine J.region ?_
    refine O.p (Pu.assign rfl) rfl ?_
    refine O.nil ?_
    exact J.ret (Fin.ret (rs := [.tmp 4]) rfl [_] ⟨rfl, trivial⟩ [] (by decide) [] rfl ⟨by simp [vOf, Dw.cmp, *], rfl⟩)
  ·
    have p5 := of_decide_eq_false h3
    refine J.skip ?_
    refine J.seq ?_
    refine J.seq ?_
    refine J.region ?_
    refine O.p (Pu.move rfl) rfl ?_
    refine O.p (Pu.move rfl) rfl ?_
    refine O.p (Pu.gtr rfl rfl) rfl ?_
    refine O.nil ?_
    refine J.cond rfl (fun h6 => ?_) (fun h6 => ?_)
    ·
      have p7 := of_decide_eq_true h6
      refine J.seq ?_
      refine J.region ?_
      refine O.p (Pu.assign rfl) rfl ?_
      refine O.nil ?_
      exact J.ret (Fin.ret (rs := [.tmp 4]) rfl [_] ⟨rfl, trivial⟩ [] (by decide) [] rfl ⟨by simp [vOf, Dw.cmp, *], rfl⟩)
    ·
      have p8 := of_decide_eq_false h6
      refine J.skip ?_
      refine J.seq ?_
      refine J.region ?_
      refine O.p (Pu.assign rfl) rfl ?_
      refine O.nil ?_
      exact J.ret (Fin.ret (rs := [.tmp 4]) rfl [_] ⟨rfl, trivial⟩ [] (by decide) [] rfl ⟨by simp [vOf, Dw.cmp, *], rfl⟩)

set_option maxRecDepth 100000 in
theorem dw_moved (k : Int) (was now : Wd) : Tri Try.prog 58 #[.int .i64 k, .agg #[.int .i64 was.no, .int .i64 was.th, .int .i64 was.ti], .agg #[.int .i64 now.no, .int .i64 now.th, .int .i64 now.ti]] [] [] (fun v L' => v = .agg #[.int .i64 ((Dw.moved k was now).at_), .int .i64 ((Dw.moved k was now).way), .int .i64 ((Dw.moved k was now).tier)] ∧ L' = []) := by
  refine Tri.enter (args := [.int .i64 k, .agg #[.int .i64 was.no, .int .i64 was.th, .int .i64 was.ti], .agg #[.int .i64 now.no, .int .i64 now.th, .int .i64 now.ti]]) (body := _) 19 Try.func58 rfl Try.ntmps58 rfl ?_
  intro w0
  refine J.seq ?_
  refine J.region ?_
  refine O.l (Lo.box [.int .i64 was.no, .int .i64 was.th, .int .i64 was.ti] rfl rfl) rfl ?_
  rintro _ _ ⟨g1, rfl, rfl⟩
  refine O.l (Lo.box [.int .i64 now.no, .int .i64 now.th, .int .i64 now.ti] rfl rfl) rfl ?_
  rintro _ _ ⟨g2, rfl, rfl⟩
  refine O.l (Lo.alloc [.int .i64 0, .int .i64 0, .int .i64 0] (by exact Try.zeroValue44) rfl) rfl ?_
  rintro _ _ ⟨g3, rfl, rfl⟩
  refine O.nil ?_
  refine J.seq ?_
  refine J.drawHead 12 Try.mixed (by kernel_rfl) ?_
  refine Hd.p (Pu.move rfl) rfl ?_
  refine Hd.p (Pu.fieldAddr (off' := 1) Try.runUnderlying104 rfl Try.sizeOf3 rfl rfl rfl) rfl ?_
  refine Hd.q (Qt.ld rfl (Cel.var 1 rfl) (o := 0) (off := 1) rfl (Cut.one Try.isAgg3 rfl)) rfl ?_
  refine Hd.p (Pu.fieldAddr (off' := 1) Try.runUnderlying104 rfl Try.sizeOf3 rfl rfl rfl) rfl ?_
  refine Hd.q (Qt.ld rfl (Cel.var 2 rfl) (o := 0) (off := 1) rfl (Cut.one Try.isAgg3 rfl)) rfl ?_
  refine Hd.call (vs := [.int .i64 now.th, .int .i64 was.th]) (caps := []) (by exact Try.call89) rfl rfl (cmp_compare now.th was.th) (fun _ _ h => h) RoOk.nil rfl ?_
  refine Hd.p (Pu.fieldAddr (off' := 2) Try.runUnderlying104 rfl Try.sizeOf3 rfl rfl rfl) rfl ?_
  refine Hd.q (Qt.ld rfl (Cel.var 1 rfl) (o := 0) (off := 2) rfl (Cut.one Try.isAgg3 rfl)) rfl ?_
  refine Hd.p (Pu.fieldAddr (off' := 2) Try.runUnderlying104 rfl Try.sizeOf3 rfl rfl rfl) rfl ?_
  refine Hd.q (Qt.ld rfl (Cel.var 2 rfl) (o := 0) (off := 2) rfl (Cut.one Try.isAgg3 rfl)) rfl ?_
  refine Hd.p (Pu.sub rfl rfl) rfl ?_
  refine Hd.p (Pu.build [(0, .int .i64 k), (1, .int .i64 (Dw.cmp now.th was.th)), (2, .int .i64 (IntKind.i64.wrap (now.ti - was.ti)))] [.int .i64 k, .int .i64 (Dw.cmp now.th was.th), .int .i64 (IntKind.i64.wrap (now.ti - was.ti))] #[(0, 1), (1, 1), (2, 1)] Try.runUnderlying44 Try.zeroValue44 (places44 Try.underlying44) rfl (by kernel_rfl)) rfl ?_
  refine Hd.nil ?_
  refine O.l0 (Lo.store 0 (vs := [.int .i64 k, .int .i64 (Dw.cmp now.th was.th), .int .i64 (IntKind.i64.wrap (now.ti - was.ti))]) [.int .i64 k, .int .i64 (Dw.cmp now.th was.th), .int .i64 (IntKind.i64.wrap (now.ti - was.ti))] rfl rfl rfl (by exact Try.sizeOf44) rfl rfl rfl rfl rfl) ?_
  rintro _ _ rfl
  refine O.nil ?_
  exact J.ret (Fin.ret (rs := [.cell 6 44]) rfl [_] ⟨⟨_, _, 0, 0, _, rfl, (Cel.var 0 rfl), rfl, (Cut.agg [.int .i64 k, .int .i64 (Dw.cmp now.th was.th), .int .i64 (IntKind.i64.wrap (now.ti - was.ti))] Try.isAgg44 Try.sizeOf44 rfl rfl)⟩, trivial⟩ [] (by decide) [] rfl ⟨rfl, rfl⟩)

set_option maxRecDepth 100000 in
theorem dw_soon (k : Kp) (m : Mv) (no : Int) (x : Kn) : Tri Try.prog 59 #[.agg #[.int .i64 k.way, .int .i64 k.frm, .int .i64 k.dim, .int .i64 k.at_], .agg #[.int .i64 m.at_, .int .i64 m.way, .int .i64 m.tier], .int .i64 no, .agg #[.int .i64 x.low, .int .i64 x.high, .int .i64 x.cut, .int .i64 x.lift, .int .i64 x.floor, .int .i64 x.turn, .int .i64 x.dwell]] [] [] (fun v L' => v = .bool (Dw.soon k m no x) ∧ L' = []) := by
  refine Tri.enter (args := [.agg #[.int .i64 k.way, .int .i64 k.frm, .int .i64 k.dim, .int .i64 k.at_], .agg #[.int .i64 m.at_, .int .i64 m.way, .int .i64 m.tier], .int .i64 no, .agg #[.int .i64 x.low, .int .i64 x.high, .int .i64 x.cut, .int .i64 x.lift, .int .i64 x.floor, .int .i64 x.turn, .int .i64 x.dwell]]) (body := _) 54 Try.func59 rfl Try.ntmps59 rfl ?_
  intro w0
  refine J.seq ?_
  refine J.region ?_
  refine O.l (Lo.box [.int .i64 k.way, .int .i64 k.frm, .int .i64 k.dim, .int .i64 k.at_] rfl rfl) rfl ?_
  rintro _ _ ⟨g1, rfl, rfl⟩
  refine O.l (Lo.box [.int .i64 m.at_, .int .i64 m.way, .int .i64 m.tier] rfl rfl) rfl ?_
  rintro _ _ ⟨g2, rfl, rfl⟩
  refine O.l (Lo.box [.int .i64 x.low, .int .i64 x.high, .int .i64 x.cut, .int .i64 x.lift, .int .i64 x.floor, .int .i64 x.turn, .int .i64 x.dwell] rfl rfl) rfl ?_
  rintro _ _ ⟨g3, rfl, rfl⟩
  refine O.p (Pu.assign rfl) rfl ?_
  refine O.nil ?_
  refine J.seq ?_
  refine J.region ?_
  refine O.p (Pu.fieldAddr (off' := 1) Try.runUnderlying44 rfl Try.sizeOf3 rfl rfl rfl) rfl ?_
  refine O.q (Qt.ld rfl (Cel.var 1 rfl) (o := 0) (off := 1) rfl (Cut.one Try.isAgg3 rfl)) rfl ?_
  refine O.p (Pu.neq rfl rfl) rfl ?_
  refine O.p (Pu.move rfl) rfl ?_
  refine by_bool (decide (m.way ≠ 0)) (fun h4 => ?_) (fun h4 => ?_)
  ·
    have p5 := of_decide_eq_true h4
    refine O.gq (t := 13) rfl rfl h4 rfl (Pu.qt (Pu.fieldAddr (off' := 0) Try.runUnderlying101 rfl Try.sizeOf3 rfl rfl rfl)) rfl ?_
    refine O.gq (t := 13) rfl rfl h4 rfl (Qt.ld rfl (Cel.var 2 rfl) (o := 0) (off := 0) rfl (Cut.one Try.isAgg3 rfl)) rfl ?_
    refine O.gq (t := 13) rfl rfl h4 rfl (Pu.qt (Pu.neq rfl rfl)) rfl ?_
    refine O.p (Pu.pickT rfl h4 rfl) rfl ?_
    refine O.p (Pu.move rfl) rfl ?_
    refine by_bool (decide (k.way ≠ 0)) (fun h6 => ?_) (fun h6 => ?_)
    ·
      have p7 := of_decide_eq_true h6
      refine O.gq (t := 18) rfl rfl h6 rfl (Pu.qt (Pu.fieldAddr (off' := 1) Try.runUnderlying44 rfl Try.sizeOf3 rfl rfl rfl)) rfl ?_
      refine O.gq (t := 18) rfl rfl h6 rfl (Qt.ld rfl (Cel.var 1 rfl) (o := 0) (off := 1) rfl (Cut.one Try.isAgg3 rfl)) rfl ?_
      refine O.gq (t := 18) rfl rfl h6 rfl (Pu.qt (Pu.fieldAddr (off' := 0) Try.runUnderlying101 rfl Try.sizeOf3 rfl rfl rfl)) rfl ?_
      refine O.gq (t := 18) rfl rfl h6 rfl (Qt.ld rfl (Cel.var 2 rfl) (o := 0) (off := 0) rfl (Cut.one Try.isAgg3 rfl)) rfl ?_
      refine O.gq (t := 18) rfl rfl h6 rfl (Pu.qt (Pu.neq rfl rfl)) rfl ?_
      refine O.p (Pu.pickT rfl h6 rfl) rfl ?_
      refine O.p (Pu.assign rfl) rfl ?_
      refine O.nil ?_
      refine J.seq ?_
      refine J.region ?_
      refine O.p (Pu.move rfl) rfl ?_
      refine O.p (Pu.move rfl) rfl ?_
      refine by_bool (decide (m.way ≠ k.way)) (fun h8 => ?_) (fun h8 => ?_)
      ·
        have p9 := of_decide_eq_true h8
        refine O.gq (t := 26) rfl rfl h8 rfl (Pu.qt (Pu.move rfl)) rfl ?_
        refine O.gq (t := 26) rfl rfl h8 rfl (Pu.qt (Pu.fieldAddr (off' := 1) Try.runUnderlying101 rfl Try.sizeOf3 rfl rfl rfl)) rfl ?_
        refine O.gq (t := 26) rfl rfl h8 rfl (Qt.ld rfl (Cel.var 2 rfl) (o := 0) (off := 1) rfl (Cut.one Try.isAgg3 rfl)) rfl ?_
        refine O.gq (t := 26) rfl rfl h8 rfl (Pu.qt (Pu.sub rfl rfl)) rfl ?_
        refine O.gq (t := 26) rfl rfl h8 rfl (Pu.qt (Pu.fieldAddr (off' := 5) Try.runUnderlying42 rfl Try.sizeOf3 rfl rfl rfl)) rfl ?_
        refine O.gq (t := 26) rfl rfl h8 rfl (Qt.ld rfl (Cel.var 0 rfl) (o := 0) (off := 5) rfl (Cut.one Try.isAgg3 rfl)) rfl ?_
        refine O.gq (t := 26) rfl rfl h8 rfl (Pu.qt (Pu.lss rfl rfl)) rfl ?_
        refine O.p (Pu.pickT rfl h8 rfl) rfl ?_
        refine O.p (Pu.move rfl) rfl ?_
        refine by_bool (decide ((IntKind.i64.wrap (no - k.frm)) < x.turn)) (fun h10 => ?_) (fun h10 => ?_)
        ·
          have p11 := of_decide_eq_true h10
          refine O.gskip (t := 35) rfl rfl (no_bool (by rw [h10]; decide)) rfl rfl ?_
          refine O.gskip (t := 35) rfl rfl (no_bool (by rw [h10]; decide)) rfl rfl ?_
          refine O.gskip (t := 35) rfl rfl (no_bool (by rw [h10]; decide)) rfl rfl ?_
          refine O.gskip (t := 35) rfl rfl (no_bool (by rw [h10]; decide)) rfl rfl ?_
          refine O.gskip (t := 39) rfl rfl (no_undef _) rfl rfl ?_
          refine O.gskip (t := 39) rfl rfl (no_undef _) rfl rfl ?_
          refine O.gskip (t := 39) rfl rfl (no_undef _) rfl rfl ?_
          refine O.gskip (t := 35) rfl rfl (no_bool (by rw [h10]; decide)) rfl rfl ?_
          refine O.gskip (t := 35) rfl rfl (no_bool (by rw [h10]; decide)) rfl rfl ?_
          refine O.gskip (t := 44) rfl rfl (no_undef _) rfl rfl ?_
          refine O.gskip (t := 44) rfl rfl (no_undef _) rfl rfl ?_
          refine O.gskip (t := 44) rfl rfl (no_undef _) rfl rfl ?_
          refine O.gskip (t := 44) rfl rfl (no_undef _) rfl rfl ?_
          refine O.gskip (t := 44) rfl rfl (no_undef _) rfl rfl ?_
          refine O.gskip (t := 44) rfl rfl (no_undef _) rfl rfl ?_
          refine O.gskip (t := 44) rfl rfl (no_undef _) rfl rfl ?_
          refine O.gskip (t := 35) rfl rfl (no_bool (by rw [h10]; decide)) rfl rfl ?_
          refine O.p (Pu.pickT rfl h10 rfl) rfl ?_
          refine O.p (Pu.assign rfl) rfl ?_
          refine O.nil ?_
          exact J.ret (Fin.ret (rs := [.tmp 8]) rfl [_] ⟨rfl, trivial⟩ [] (by decide) [] rfl ⟨by simp [vOf, Dw.soon, *], rfl⟩)
        ·
          have p12 := of_decide_eq_false h10
          refine O.gq (t := 35) rfl rfl h10 rfl (Pu.qt (Pu.fieldAddr (off' := 2) Try.runUnderlying44 rfl Try.sizeOf3 rfl rfl rfl)) rfl ?_
          refine O.gq (t := 35) rfl rfl h10 rfl (Qt.ld rfl (Cel.var 1 rfl) (o := 0) (off := 2) rfl (Cut.one Try.isAgg3 rfl)) rfl ?_
          refine O.gq (t := 35) rfl rfl h10 rfl (Pu.qt (Pu.neq rfl rfl)) rfl ?_
          refine O.gq (t := 35) rfl rfl h10 rfl (Pu.qt (Pu.move rfl)) rfl ?_
          refine by_bool (decide (m.tier ≠ 0)) (fun h13 => ?_) (fun h13 => ?_)
          ·
            have p14 := of_decide_eq_true h13
            refine O.gq (t := 39) rfl rfl h13 rfl (Pu.qt (Pu.fieldAddr (off' := 2) Try.runUnderlying101 rfl Try.sizeOf3 rfl rfl rfl)) rfl ?_
            refine O.gq (t := 39) rfl rfl h13 rfl (Qt.ld rfl (Cel.var 2 rfl) (o := 0) (off := 2) rfl (Cut.one Try.isAgg3 rfl)) rfl ?_
            refine O.gq (t := 39) rfl rfl h13 rfl (Pu.qt (Pu.gtr rfl rfl)) rfl ?_
            refine O.gq (t := 35) rfl rfl h10 rfl (Pu.qt (Pu.pickT rfl h13 rfl)) rfl ?_
            refine O.gq (t := 35) rfl rfl h10 rfl (Pu.qt (Pu.move rfl)) rfl ?_
            refine by_bool (decide (0 < k.dim)) (fun h15 => ?_) (fun h15 => ?_)
            ·
              have p16 := of_decide_eq_true h15
              refine O.gq (t := 44) rfl rfl h15 rfl (Pu.qt (Pu.move rfl)) rfl ?_
              refine O.gq (t := 44) rfl rfl h15 rfl (Pu.qt (Pu.fieldAddr (off' := 3) Try.runUnderlying101 rfl Try.sizeOf3 rfl rfl rfl)) rfl ?_
              refine O.gq (t := 44) rfl rfl h15 rfl (Qt.ld rfl (Cel.var 2 rfl) (o := 0) (off := 3) rfl (Cut.one Try.isAgg3 rfl)) rfl ?_
              refine O.gq (t := 44) rfl rfl h15 rfl (Pu.qt (Pu.sub rfl rfl)) rfl ?_
              refine O.gq (t := 44) rfl rfl h15 rfl (Pu.qt (Pu.fieldAddr (off' := 6) Try.runUnderlying42 rfl Try.sizeOf3 rfl rfl rfl)) rfl ?_
              refine O.gq (t := 44) rfl rfl h15 rfl (Qt.ld rfl (Cel.var 0 rfl) (o := 0) (off := 6) rfl (Cut.one Try.isAgg3 rfl)) rfl ?_
              refine O.gq (t := 44) rfl rfl h15 rfl (Pu.qt (Pu.lss rfl rfl)) rfl ?_
              refine O.gq (t := 35) rfl rfl h10 rfl (Pu.qt (Pu.pickT rfl h15 rfl)) rfl ?_
              refine O.p (Pu.pickF rfl h10 rfl) rfl ?_
              refine O.p (Pu.assign rfl) rfl ?_
              refine O.nil ?_
              exact J.ret (Fin.ret (rs := [.tmp 8]) rfl [_] ⟨rfl, trivial⟩ [] (by decide) [] rfl ⟨by simp [vOf, Dw.soon, *], rfl⟩)
            ·
              have p17 := of_decide_eq_false h15
              refine O.gskip (t := 44) rfl rfl (no_bool (by rw [h15]; decide)) rfl rfl ?_
              refine O.gskip (t := 44) rfl rfl (no_bool (by rw [h15]; decide)) rfl rfl ?_
              refine O.gskip (t := 44) rfl rfl (no_bool (by rw [h15]; decide)) rfl rfl ?_
              refine O.gskip (t := 44) rfl rfl (no_bool (by rw [h15]; decide)) rfl rfl ?_
              refine O.gskip (t := 44) rfl rfl (no_bool (by rw [h15]; decide)) rfl rfl ?_
              refine O.gskip (t := 44) rfl rfl (no_bool (by rw [h15]; decide)) rfl rfl ?_
              refine O.gskip (t := 44) rfl rfl (no_bool (by rw [h15]; decide)) rfl rfl ?_
              refine O.gq (t := 35) rfl rfl h10 rfl (Pu.qt (Pu.pickF rfl h15 rfl)) rfl ?_
              refine O.p (Pu.pickF rfl h10 rfl) rfl ?_
              refine O.p (Pu.assign rfl) rfl ?_
              refine O.nil ?_
              exact J.ret (Fin.ret (rs := [.tmp 8]) rfl [_] ⟨rfl, trivial⟩ [] (by decide) [] rfl ⟨by simp [vOf, Dw.soon, *], rfl⟩)
          ·
            have p18 := of_decide_eq_false h13
            refine O.gskip (t := 39) rfl rfl (no_bool (by rw [h13]; decide)) rfl rfl ?_
            refine O.gskip (t := 39) rfl rfl (no_bool (by rw [h13]; decide)) rfl rfl ?_
            refine O.gskip (t := 39) rfl rfl (no_bool (by rw [h13]; decide)) rfl rfl ?_
            refine O.gq (t := 35) rfl rfl h10 rfl (Pu.qt (Pu.pickF rfl h13 rfl)) rfl ?_
            refine O.gq (t := 35) rfl rfl h10 rfl (Pu.qt (Pu.move rfl)) rfl ?_
            refine O.gskip (t := 44) rfl rfl (no_bool (by decide)) rfl rfl ?_
            refine O.gskip (t := 44) rfl rfl (no_bool (by decide)) rfl rfl ?_
            refine O.gskip (t := 44) rfl rfl (no_bool (by decide)) rfl rfl ?_
            refine O.gskip (t := 44) rfl rfl (no_bool (by decide)) rfl rfl ?_
            refine O.gskip (t := 44) rfl rfl (no_bool (by decide)) rfl rfl ?_
            refine O.gskip (t := 44) rfl rfl (no_bool (by decide)) rfl rfl ?_
            refine O.gskip (t := 44) rfl rfl (no_bool (by decide)) rfl rfl ?_
            refine O.gq (t := 35) rfl rfl h10 rfl (Pu.qt (Pu.pickF rfl rfl rfl)) rfl ?_
            refine O.p (Pu.pickF rfl h10 rfl) rfl ?_
            refine O.p (Pu.assign rfl) rfl ?_
            refine O.nil ?_
            exact J.ret (Fin.ret (rs := [.tmp 8]) rfl [_] ⟨rfl, trivial⟩ [] (by decide) [] rfl ⟨by simp [vOf, Dw.soon, *], rfl⟩)
      ·
        have p19 := of_decide_eq_false h8
        refine O.gskip (t := 26) rfl rfl (no_bool (by rw [h8]; decide)) rfl rfl ?_
        refine O.gskip (t := 26) rfl rfl (no_bool (by rw [h8]; decide)) rfl rfl ?_
        refine O.gskip (t := 26) rfl rfl (no_bool (by rw [h8]; decide)) rfl rfl ?_
        refine O.gskip (t := 26) rfl rfl (no_bool (by rw [h8]; decide)) rfl rfl ?_
        refine O.gskip (t := 26) rfl rfl (no_bool (by rw [h8]; decide)) rfl rfl ?_
        refine O.gskip (t := 26) rfl rfl (no_bool (by rw [h8]; decide)) rfl rfl ?_
        refine O.gskip (t := 26) rfl rfl (no_bool (by rw [h8]; decide)) rfl rfl ?_
        refine O.p (Pu.pickF rfl h8 rfl) rfl ?_
        refine O.p (Pu.move rfl) rfl ?_
        refine O.gq (t := 35) rfl rfl rfl rfl (Pu.qt (Pu.fieldAddr (off' := 2) Try.runUnderlying44 rfl Try.sizeOf3 rfl rfl rfl)) rfl ?_
        refine O.gq (t := 35) rfl rfl rfl rfl (Qt.ld rfl (Cel.var 1 rfl) (o := 0) (off := 2) rfl (Cut.one Try.isAgg3 rfl)) rfl ?_
        refine O.gq (t := 35) rfl rfl rfl rfl (Pu.qt (Pu.neq rfl rfl)) rfl ?_
        refine O.gq (t := 35) rfl rfl rfl rfl (Pu.qt (Pu.move rfl)) rfl ?_
        refine by_bool (decide (m.tier ≠ 0)) (fun h20 => ?_) (fun h20 => ?_)
        ·
          have p21 := of_decide_eq_true h20
          refine O.gq (t := 39) rfl rfl h20 rfl (Pu.qt (Pu.fieldAddr (off' := 2) Try.runUnderlying101 rfl Try.sizeOf3 rfl rfl rfl)) rfl ?_
          refine O.gq (t := 39) rfl rfl h20 rfl (Qt.ld rfl (Cel.var 2 rfl) (o := 0) (off := 2) rfl (Cut.one Try.isAgg3 rfl)) rfl ?_
          refine O.gq (t := 39) rfl rfl h20 rfl (Pu.qt (Pu.gtr rfl rfl)) rfl ?_
          refine O.gq (t := 35) rfl rfl rfl rfl (Pu.qt (Pu.pickT rfl h20 rfl)) rfl ?_
          refine O.gq (t := 35) rfl rfl rfl rfl (Pu.qt (Pu.move rfl)) rfl ?_
          refine by_bool (decide (0 < k.dim)) (fun h22 => ?_) (fun h22 => ?_)
          ·
            have p23 := of_decide_eq_true h22
            refine O.gq (t := 44) rfl rfl h22 rfl (Pu.qt (Pu.move rfl)) rfl ?_
            refine O.gq (t := 44) rfl rfl h22 rfl (Pu.qt (Pu.fieldAddr (off' := 3) Try.runUnderlying101 rfl Try.sizeOf3 rfl rfl rfl)) rfl ?_
            refine O.gq (t := 44) rfl rfl h22 rfl (Qt.ld rfl (Cel.var 2 rfl) (o := 0) (off := 3) rfl (Cut.one Try.isAgg3 rfl)) rfl ?_
            refine O.gq (t := 44) rfl rfl h22 rfl (Pu.qt (Pu.sub rfl rfl)) rfl ?_
            refine O.gq (t := 44) rfl rfl h22 rfl (Pu.qt (Pu.fieldAddr (off' := 6) Try.runUnderlying42 rfl Try.sizeOf3 rfl rfl rfl)) rfl ?_
            refine O.gq (t := 44) rfl rfl h22 rfl (Qt.ld rfl (Cel.var 0 rfl) (o := 0) (off := 6) rfl (Cut.one Try.isAgg3 rfl)) rfl ?_
            refine O.gq (t := 44) rfl rfl h22 rfl (Pu.qt (Pu.lss rfl rfl)) rfl ?_
            refine O.gq (t := 35) rfl rfl rfl rfl (Pu.qt (Pu.pickT rfl h22 rfl)) rfl ?_
            refine O.p (Pu.pickF rfl rfl rfl) rfl ?_
            refine O.p (Pu.assign rfl) rfl ?_
            refine O.nil ?_
            exact J.ret (Fin.ret (rs := [.tmp 8]) rfl [_] ⟨rfl, trivial⟩ [] (by decide) [] rfl ⟨by simp [vOf, Dw.soon, *], rfl⟩)
          ·
            have p24 := of_decide_eq_false h22
            refine O.gskip (t := 44) rfl rfl (no_bool (by rw [h22]; decide)) rfl rfl ?_
            refine O.gskip (t := 44) rfl rfl (no_bool (by rw [h22]; decide)) rfl rfl ?_
            refine O.gskip (t := 44) rfl rfl (no_bool (by rw [h22]; decide)) rfl rfl ?_
            refine O.gskip (t := 44) rfl rfl (no_bool (by rw [h22]; decide)) rfl rfl ?_
            refine O.gskip (t := 44) rfl rfl (no_bool (by rw [h22]; decide)) rfl rfl ?_
            refine O.gskip (t := 44) rfl rfl (no_bool (by rw [h22]; decide)) rfl rfl ?_
            refine O.gskip (t := 44) rfl rfl (no_bool (by rw [h22]; decide)) rfl rfl ?_
            refine O.gq (t := 35) rfl rfl rfl rfl (Pu.qt (Pu.pickF rfl h22 rfl)) rfl ?_
            refine O.p (Pu.pickF rfl rfl rfl) rfl ?_
            refine O.p (Pu.assign rfl) rfl ?_
            refine O.nil ?_
            exact J.ret (Fin.ret (rs := [.tmp 8]) rfl [_] ⟨rfl, trivial⟩ [] (by decide) [] rfl ⟨by simp [vOf, Dw.soon, *], rfl⟩)
        ·
          have p25 := of_decide_eq_false h20
          refine O.gskip (t := 39) rfl rfl (no_bool (by rw [h20]; decide)) rfl rfl ?_
          refine O.gskip (t := 39) rfl rfl (no_bool (by rw [h20]; decide)) rfl rfl ?_
          refine O.gskip (t := 39) rfl rfl (no_bool (by rw [h20]; decide)) rfl rfl ?_
          refine O.gq (t := 35) rfl rfl rfl rfl (Pu.qt (Pu.pickF rfl h20 rfl)) rfl ?_
          refine O.gq (t := 35) rfl rfl rfl rfl (Pu.qt (Pu.move rfl)) rfl ?_
          refine O.gskip (t := 44) rfl rfl (no_bool (by decide)) rfl rfl ?_
          refine O.gskip (t := 44) rfl rfl (no_bool (by decide)) rfl rfl ?_
          refine O.gskip (t := 44) rfl rfl (no_bool (by decide)) rfl rfl ?_
          refine O.gskip (t := 44) rfl rfl (no_bool (by decide)) rfl rfl ?_
          refine O.gskip (t := 44) rfl rfl (no_bool (by decide)) rfl rfl ?_
          refine O.gskip (t := 44) rfl rfl (no_bool (by decide)) rfl rfl ?_
          refine O.gskip (t := 44) rfl rfl (no_bool (by decide)) rfl rfl ?_
          refine O.gq (t := 35) rfl rfl rfl rfl (Pu.qt (Pu.pickF rfl rfl rfl)) rfl ?_
          refine O.p (Pu.pickF rfl rfl rfl) rfl ?_
          refine O.p (Pu.assign rfl) rfl ?_
          refine O.nil ?_
          exact J.ret (Fin.ret (rs := [.tmp 8]) rfl [_] ⟨rfl, trivial⟩ [] (by decide) [] rfl ⟨by simp [vOf, Dw.soon, *], rfl⟩)
    ·
      have p26 := of_decide_eq_false h6
      refine O.gskip (t := 18) rfl rfl (no_bool (by rw [h6]; decide)) rfl rfl ?_
      refine O.gskip (t := 18) rfl rfl (no_bool (by rw [h6]; decide)) rfl rfl ?_
      refine O.gskip (t := 18) rfl rfl (no_bool (by rw [h6]; decide)) rfl rfl ?_
      refine O.gskip (t := 18) rfl rfl (no_bool (by rw [h6]; decide)) rfl rfl ?_
      refine O.gskip (t := 18) rfl rfl (no_bool (by rw [h6]; decide)) rfl rfl ?_
      refine O.p (Pu.pickF rfl h6 rfl) rfl ?_
      refine O.p (Pu.assign rfl) rfl ?_
      refine O.nil ?_
      refine J.seq ?_
      refine J.region ?_
      refine O.p (Pu.move rfl) rfl ?_
      refine O.p (Pu.move rfl) rfl ?_
      refine O.gskip (t := 26) rfl rfl (no_bool (by decide)) rfl rfl ?_
      refine O.gskip (t := 26) rfl rfl (no_bool (by decide)) rfl rfl ?_
      refine O.gskip (t := 26) rfl rfl (no_bool (by decide)) rfl rfl ?_
      refine O.gskip (t := 26) rfl rfl (no_bool (by decide)) rfl rfl ?_
      refine O.gskip (t := 26) rfl rfl (no_bool (by decide)) rfl rfl ?_
      refine O.gskip (t := 26) rfl rfl (no_bool (by decide)) rfl rfl ?_
      refine O.gskip (t := 26) rfl rfl (no_bool (by decide)) rfl rfl ?_
      refine O.p (Pu.pickF rfl rfl rfl) rfl ?_
      refine O.p (Pu.move rfl) rfl ?_
      refine O.gq (t := 35) rfl rfl rfl rfl (Pu.qt (Pu.fieldAddr (off' := 2) Try.runUnderlying44 rfl Try.sizeOf3 rfl rfl rfl)) rfl ?_
      refine O.gq (t := 35) rfl rfl rfl rfl (Qt.ld rfl (Cel.var 1 rfl) (o := 0) (off := 2) rfl (Cut.one Try.isAgg3 rfl)) rfl ?_
      refine O.gq (t := 35) rfl rfl rfl rfl (Pu.qt (Pu.neq rfl rfl)) rfl ?_
      refine O.gq (t := 35) rfl rfl rfl rfl (Pu.qt (Pu.move rfl)) rfl ?_
      refine by_bool (decide (m.tier ≠ 0)) (fun h27 => ?_) (fun h27 => ?_)
      ·
        have p28 := of_decide_eq_true h27
        refine O.gq (t := 39) rfl rfl h27 rfl (Pu.qt (Pu.fieldAddr (off' := 2) Try.runUnderlying101 rfl Try.sizeOf3 rfl rfl rfl)) rfl ?_
        refine O.gq (t := 39) rfl rfl h27 rfl (Qt.ld rfl (Cel.var 2 rfl) (o := 0) (off := 2) rfl (Cut.one Try.isAgg3 rfl)) rfl ?_
        refine O.gq (t := 39) rfl rfl h27 rfl (Pu.qt (Pu.gtr rfl rfl)) rfl ?_
        refine O.gq (t := 35) rfl rfl rfl rfl (Pu.qt (Pu.pickT rfl h27 rfl)) rfl ?_
        refine O.gq (t := 35) rfl rfl rfl rfl (Pu.qt (Pu.move rfl)) rfl ?_
        refine by_bool (decide (0 < k.dim)) (fun h29 => ?_) (fun h29 => ?_)
        ·
          have p30 := of_decide_eq_true h29
          refine O.gq (t := 44) rfl rfl h29 rfl (Pu.qt (Pu.move rfl)) rfl ?_
          refine O.gq (t := 44) rfl rfl h29 rfl (Pu.qt (Pu.fieldAddr (off' := 3) Try.runUnderlying101 rfl Try.sizeOf3 rfl rfl rfl)) rfl ?_
          refine O.gq (t := 44) rfl rfl h29 rfl (Qt.ld rfl (Cel.var 2 rfl) (o := 0) (off := 3) rfl (Cut.one Try.isAgg3 rfl)) rfl ?_
          refine O.gq (t := 44) rfl rfl h29 rfl (Pu.qt (Pu.sub rfl rfl)) rfl ?_
          refine O.gq (t := 44) rfl rfl h29 rfl (Pu.qt (Pu.fieldAddr (off' := 6) Try.runUnderlying42 rfl Try.sizeOf3 rfl rfl rfl)) rfl ?_
          refine O.gq (t := 44) rfl rfl h29 rfl (Qt.ld rfl (Cel.var 0 rfl) (o := 0) (off := 6) rfl (Cut.one Try.isAgg3 rfl)) rfl ?_
          refine O.gq (t := 44) rfl rfl h29 rfl (Pu.qt (Pu.lss rfl rfl)) rfl ?_
          refine O.gq (t := 35) rfl rfl rfl rfl (Pu.qt (Pu.pickT rfl h29 rfl)) rfl ?_
          refine O.p (Pu.pickF rfl rfl rfl) rfl ?_
          refine O.p (Pu.assign rfl) rfl ?_
          refine O.nil ?_
          exact J.ret (Fin.ret (rs := [.tmp 8]) rfl [_] ⟨rfl, trivial⟩ [] (by decide) [] rfl ⟨by simp [vOf, Dw.soon, *], rfl⟩)
        ·
          have p31 := of_decide_eq_false h29
          refine O.gskip (t := 44) rfl rfl (no_bool (by rw [h29]; decide)) rfl rfl ?_
          refine O.gskip (t := 44) rfl rfl (no_bool (by rw [h29]; decide)) rfl rfl ?_
          refine O.gskip (t := 44) rfl rfl (no_bool (by rw [h29]; decide)) rfl rfl ?_
          refine O.gskip (t := 44) rfl rfl (no_bool (by rw [h29]; decide)) rfl rfl ?_
          refine O.gskip (t := 44) rfl rfl (no_bool (by rw [h29]; decide)) rfl rfl ?_
          refine O.gskip (t := 44) rfl rfl (no_bool (by rw [h29]; decide)) rfl rfl ?_
          refine O.gskip (t := 44) rfl rfl (no_bool (by rw [h29]; decide)) rfl rfl ?_
          refine O.gq (t := 35) rfl rfl rfl rfl (Pu.qt (Pu.pickF rfl h29 rfl)) rfl ?_
          refine O.p (Pu.pickF rfl rfl rfl) rfl ?_
          refine O.p (Pu.assign rfl) rfl ?_
          refine O.nil ?_
          exact J.ret (Fin.ret (rs := [.tmp 8]) rfl [_] ⟨rfl, trivial⟩ [] (by decide) [] rfl ⟨by simp [vOf, Dw.soon, *], rfl⟩)
      ·
        have p32 := of_decide_eq_false h27
        refine O.gskip (t := 39) rfl rfl (no_bool (by rw [h27]; decide)) rfl rfl ?_
        refine O.gskip (t := 39) rfl rfl (no_bool (by rw [h27]; decide)) rfl rfl ?_
        refine O.gskip (t := 39) rfl rfl (no_bool (by rw [h27]; decide)) rfl rfl ?_
        refine O.gq (t := 35) rfl rfl rfl rfl (Pu.qt (Pu.pickF rfl h27 rfl)) rfl ?_
        refine O.gq (t := 35) rfl rfl rfl rfl (Pu.qt (Pu.move rfl)) rfl ?_
        refine O.gskip (t := 44) rfl rfl (no_bool (by decide)) rfl rfl ?_
        refine O.gskip (t := 44) rfl rfl (no_bool (by decide)) rfl rfl ?_
        refine O.gskip (t := 44) rfl rfl (no_bool (by decide)) rfl rfl ?_
        refine O.gskip (t := 44) rfl rfl (no_bool (by decide)) rfl rfl ?_
        refine O.gskip (t := 44) rfl rfl (no_bool (by decide)) rfl rfl ?_
        refine O.gskip (t := 44) rfl rfl (no_bool (by decide)) rfl rfl ?_
        refine O.gskip (t := 44) rfl rfl (no_bool (by decide)) rfl rfl ?_
        refine O.gq (t := 35) rfl rfl rfl rfl (Pu.qt (Pu.pickF rfl rfl rfl)) rfl ?_
        refine O.p (Pu.pickF rfl rfl rfl) rfl ?_
        refine O.p (Pu.assign rfl) rfl ?_
        refine O.nil ?_
        exact J.ret (Fin.ret (rs := [.tmp 8]) rfl [_] ⟨rfl, trivial⟩ [] (by decide) [] rfl ⟨by simp [vOf, Dw.soon, *], rfl⟩)
  ·
    have p33 := of_decide_eq_false h4
    refine O.gskip (t := 13) rfl rfl (no_bool (by rw [h4]; decide)) rfl rfl ?_
    refine O.gskip (t := 13) rfl rfl (no_bool (by rw [h4]; decide)) rfl rfl ?_
    refine O.gskip (t := 13) rfl rfl (no_bool (by rw [h4]; decide)) rfl rfl ?_
    refine O.p (Pu.pickF rfl h4 rfl) rfl ?_
    refine O.p (Pu.move rfl) rfl ?_
    refine O.gskip (t := 18) rfl rfl (no_bool (by decide)) rfl rfl ?_
    refine O.gskip (t := 18) rfl rfl (no_bool (by decide)) rfl rfl ?_
    refine O.gskip (t := 18) rfl rfl (no_bool (by decide)) rfl rfl ?_
    refine O.gskip (t := 18) rfl rfl (no_bool (by decide)) rfl rfl ?_
    refine O.gskip (t := 18) rfl rfl (no_bool (by decide)) rfl rfl ?_
    refine O.p (Pu.pickF rfl rfl rfl) rfl ?_
    refine O.p (Pu.assign rfl) rfl ?_
    refine O.nil ?_
    refine J.seq ?_
    refine J.region ?_
    refine O.p (Pu.move rfl) rfl ?_
    refine O.p (Pu.move rfl) rfl ?_
    refine O.gskip (t := 26) rfl rfl (no_bool (by decide)) rfl rfl ?_
    refine O.gskip (t := 26) rfl rfl (no_bool (by decide)) rfl rfl ?_
    refine O.gskip (t := 26) rfl rfl (no_bool (by decide)) rfl rfl ?_
    refine O.gskip (t := 26) rfl rfl (no_bool (by decide)) rfl rfl ?_
    refine O.gskip (t := 26) rfl rfl (no_bool (by decide)) rfl rfl ?_
    refine O.gskip (t := 26) rfl rfl (no_bool (by decide)) rfl rfl ?_
    refine O.gskip (t := 26) rfl rfl (no_bool (by decide)) rfl rfl ?_
    refine O.p (Pu.pickF rfl rfl rfl) rfl ?_
    refine O.p (Pu.move rfl) rfl ?_
    refine O.gq (t := 35) rfl rfl rfl rfl (Pu.qt (Pu.fieldAddr (off' := 2) Try.runUnderlying44 rfl Try.sizeOf3 rfl rfl rfl)) rfl ?_
    refine O.gq (t := 35) rfl rfl rfl rfl (Qt.ld rfl (Cel.var 1 rfl) (o := 0) (off := 2) rfl (Cut.one Try.isAgg3 rfl)) rfl ?_
    refine O.gq (t := 35) rfl rfl rfl rfl (Pu.qt (Pu.neq rfl rfl)) rfl ?_
    refine O.gq (t := 35) rfl rfl rfl rfl (Pu.qt (Pu.move rfl)) rfl ?_
    refine by_bool (decide (m.tier ≠ 0)) (fun h34 => ?_) (fun h34 => ?_)
    ·
      have p35 := of_decide_eq_true h34
      refine O.gq (t := 39) rfl rfl h34 rfl (Pu.qt (Pu.fieldAddr (off' := 2) Try.runUnderlying101 rfl Try.sizeOf3 rfl rfl rfl)) rfl ?_
      refine O.gq (t := 39) rfl rfl h34 rfl (Qt.ld rfl (Cel.var 2 rfl) (o := 0) (off := 2) rfl (Cut.one Try.isAgg3 rfl)) rfl ?_
      refine O.gq (t := 39) rfl rfl h34 rfl (Pu.qt (Pu.gtr rfl rfl)) rfl ?_
      refine O.gq (t := 35) rfl rfl rfl rfl (Pu.qt (Pu.pickT rfl h34 rfl)) rfl ?_
      refine O.gq (t := 35) rfl rfl rfl rfl (Pu.qt (Pu.move rfl)) rfl ?_
      refine by_bool (decide (0 < k.dim)) (fun h36 => ?_) (fun h36 => ?_)
      ·
        have p37 := of_decide_eq_true h36
        refine O.gq (t := 44) rfl rfl h36 rfl (Pu.qt (Pu.move rfl)) rfl ?_
        refine O.gq (t := 44) rfl rfl h36 rfl (Pu.qt (Pu.fieldAddr (off' := 3) Try.runUnderlying101 rfl Try.sizeOf3 rfl rfl rfl)) rfl ?_
        refine O.gq (t := 44) rfl rfl h36 rfl (Qt.ld rfl (Cel.var 2 rfl) (o := 0) (off := 3) rfl (Cut.one Try.isAgg3 rfl)) rfl ?_
        refine O.gq (t := 44) rfl rfl h36 rfl (Pu.qt (Pu.sub rfl rfl)) rfl ?_
        refine O.gq (t := 44) rfl rfl h36 rfl (Pu.qt (Pu.fieldAddr (off' := 6) Try.runUnderlying42 rfl Try.sizeOf3 rfl rfl rfl)) rfl ?_
        refine O.gq (t := 44) rfl rfl h36 rfl (Qt.ld rfl (Cel.var 0 rfl) (o := 0) (off := 6) rfl (Cut.one Try.isAgg3 rfl)) rfl ?_
        refine O.gq (t := 44) rfl rfl h36 rfl (Pu.qt (Pu.lss rfl rfl)) rfl ?_
        refine O.gq (t := 35) rfl rfl rfl rfl (Pu.qt (Pu.pickT rfl h36 rfl)) rfl ?_
        refine O.p (Pu.pickF rfl rfl rfl) rfl ?_
        refine O.p (Pu.assign rfl) rfl ?_
        refine O.nil ?_
        exact J.ret (Fin.ret (rs := [.tmp 8]) rfl [_] ⟨rfl, trivial⟩ [] (by decide) [] rfl ⟨by simp [vOf, Dw.soon, *], rfl⟩)
      ·
        have p38 := of_decide_eq_false h36
        refine O.gskip (t := 44) rfl rfl (no_bool (by rw [h36]; decide)) rfl rfl ?_
        refine O.gskip (t := 44) rfl rfl (no_bool (by rw [h36]; decide)) rfl rfl ?_
        refine O.gskip (t := 44) rfl rfl (no_bool (by rw [h36]; decide)) rfl rfl ?_
        refine O.gskip (t := 44) rfl rfl (no_bool (by rw [h36]; decide)) rfl rfl ?_
        refine O.gskip (t := 44) rfl rfl (no_bool (by rw [h36]; decide)) rfl rfl ?_
        refine O.gskip (t := 44) rfl rfl (no_bool (by rw [h36]; decide)) rfl rfl ?_
        refine O.gskip (t := 44) rfl rfl (no_bool (by rw [h36]; decide)) rfl rfl ?_
        refine O.gq (t := 35) rfl rfl rfl rfl (Pu.qt (Pu.pickF rfl h36 rfl)) rfl ?_
        refine O.p (Pu.pickF rfl rfl rfl) rfl ?_
        refine O.p (Pu.assign rfl) rfl ?_
        refine O.nil ?_
        exact J.ret (Fin.ret (rs := [.tmp 8]) rfl [_] ⟨rfl, trivial⟩ [] (by decide) [] rfl ⟨by simp [vOf, Dw.soon, *], rfl⟩)
    ·
      have p39 := of_decide_eq_false h34
      refine O.gskip (t := 39) rfl rfl (no_bool (by rw [h34]; decide)) rfl rfl ?_
      refine O.gskip (t := 39) rfl rfl (no_bool (by rw [h34]; decide)) rfl rfl ?_
      refine O.gskip (t := 39) rfl rfl (no_bool (by rw [h34]; decide)) rfl rfl ?_
      refine O.gq (t := 35) rfl rfl rfl rfl (Pu.qt (Pu.pickF rfl h34 rfl)) rfl ?_
      refine O.gq (t := 35) rfl rfl rfl rfl (Pu.qt (Pu.move rfl)) rfl ?_
      refine O.gskip (t := 44) rfl rfl (no_bool (by decide)) rfl rfl ?_
      refine O.gskip (t := 44) rfl rfl (no_bool (by decide)) rfl rfl ?_
      refine O.gskip (t := 44) rfl rfl (no_bool (by decide)) rfl rfl ?_
      refine O.gskip (t := 44) rfl rfl (no_bool (by decide)) rfl rfl ?_
      refine O.gskip (t := 44) rfl rfl (no_bool (by decide)) rfl rfl ?_
      refine O.gskip (t := 44) rfl rfl (no_bool (by decide)) rfl rfl ?_
      refine O.gskip (t := 44) rfl rfl (no_bool (by decide)) rfl rfl ?_
      refine O.gq (t := 35) rfl rfl rfl rfl (Pu.qt (Pu.pickF rfl rfl rfl)) rfl ?_
      refine O.p (Pu.pickF rfl rfl rfl) rfl ?_
      refine O.p (Pu.assign rfl) rfl ?_
      refine O.nil ?_
      exact J.ret (Fin.ret (rs := [.tmp 8]) rfl [_] ⟨rfl, trivial⟩ [] (by decide) [] rfl ⟨by simp [vOf, Dw.soon, *], rfl⟩)

set_option maxRecDepth 100000 in
theorem dw_note (k : Kp) (m : Mv) (no : Int) : Tri Try.prog 60 #[.agg #[.int .i64 k.way, .int .i64 k.frm, .int .i64 k.dim, .int .i64 k.at_], .agg #[.int .i64 m.at_, .int .i64 m.way, .int .i64 m.tier], .int .i64 no] [] [] (fun v L' => v = .agg #[.int .i64 ((Dw.note k m no).way), .int .i64 ((Dw.note k m no).frm), .int .i64 ((Dw.note k m no).dim), .int .i64 ((Dw.note k m no).at_)] ∧ L' = []) := by
  refine Tri.enter (args := [.agg #[.int .i64 k.way, .int .i64 k.frm, .int .i64 k.dim, .int .i64 k.at_], .agg #[.int .i64 m.at_, .int .i64 m.way, .int .i64 m.tier], .int .i64 no]) (body := _) 29 Try.func60 rfl Try.ntmps60 rfl ?_
  intro w0
  refine J.seq ?_
  refine J.region ?_
  refine O.l (Lo.box [.int .i64 k.way, .int .i64 k.frm, .int .i64 k.dim, .int .i64 k.at_] rfl rfl) rfl ?_
  rintro _ _ ⟨g1, rfl, rfl⟩
  refine O.l (Lo.box [.int .i64 m.at_, .int .i64 m.way, .int .i64 m.tier] rfl rfl) rfl ?_
  rintro _ _ ⟨g2, rfl, rfl⟩
  refine O.l (Lo.alloc [.int .i64 0, .int .i64 0, .int .i64 0, .int .i64 0] (by exact Try.zeroValue101) rfl) rfl ?_
  rintro _ _ ⟨g3, rfl, rfl⟩
  refine O.nil ?_
  refine J.seq ?_
  refine J.seq ?_
  refine J.region ?_
  refine O.p (Pu.fieldAddr (off' := 1) Try.runUnderlying44 rfl Try.sizeOf3 rfl rfl rfl) rfl ?_
  refine O.q (Qt.ld rfl (Cel.var 1 rfl) (o := 0) (off := 1) rfl (Cut.one Try.isAgg3 rfl)) rfl ?_
  refine O.p (Pu.neq rfl rfl) rfl ?_
  refine O.p (Pu.move rfl) rfl ?_
  refine by_bool (decide (m.way ≠ 0)) (fun h4 => ?_) (fun h4 => ?_)
  ·
    have p5 := of_decide_eq_true h4
    refine O.gq (t := 10) rfl rfl h4 rfl (Pu.qt (Pu.fieldAddr (off' := 1) Try.runUnderlying44 rfl Try.sizeOf3 rfl rfl rfl)) rfl ?_
    refine O.gq (t := 10) rfl rfl h4 rfl (Qt.ld rfl (Cel.var 1 rfl) (o := 0) (off := 1) rfl (Cut.one Try.isAgg3 rfl)) rfl ?_
    refine O.gq (t := 10) rfl rfl h4 rfl (Pu.qt (Pu.fieldAddr (off' := 0) Try.runUnderlying101 rfl Try.sizeOf3 rfl rfl rfl)) rfl ?_
    refine O.gq (t := 10) rfl rfl h4 rfl (Qt.ld rfl (Cel.var 2 rfl) (o := 0) (off := 0) rfl (Cut.one Try.isAgg3 rfl)) rfl ?_
    refine O.gq (t := 10) rfl rfl h4 rfl (Pu.qt (Pu.neq rfl rfl)) rfl ?_
    refine O.p (Pu.pickT rfl h4 rfl) rfl ?_
    refine O.nil ?_
    refine J.cond rfl (fun h6 => ?_) (fun h6 => ?_)
    ·
      have p7 := of_decide_eq_true h6
      refine J.region ?_
      refine O.p (Pu.fieldAddr (off' := 1) Try.runUnderlying44 rfl Try.sizeOf3 rfl rfl rfl) rfl ?_
      refine O.q (Qt.ld rfl (Cel.var 1 rfl) (o := 0) (off := 1) rfl (Cut.one Try.isAgg3 rfl)) rfl ?_
      refine O.p (Pu.move rfl) rfl ?_
      refine O.p (Pu.fieldAddr (off' := 0) Try.runUnderlying101 rfl Try.sizeOf3 rfl rfl rfl) rfl ?_
      refine O.l0 (Lo.store 2 (vs := [.int .i64 m.way]) [.int .i64 m.way, .int .i64 k.frm, .int .i64 k.dim, .int .i64 k.at_] rfl rfl rfl (by exact Try.sizeOf3) rfl rfl rfl rfl rfl) ?_
      rintro _ _ rfl
      refine O.p (Pu.fieldAddr (off' := 1) Try.runUnderlying101 rfl Try.sizeOf3 rfl rfl rfl) rfl ?_
      refine O.l0 (Lo.store 2 (vs := [.int .i64 no]) [.int .i64 m.way, .int .i64 no, .int .i64 k.dim, .int .i64 k.at_] rfl rfl rfl (by exact Try.sizeOf3) rfl rfl rfl rfl rfl) ?_
      rintro _ _ rfl
      refine O.nil ?_
      refine J.seq ?_
      refine J.seq ?_
      refine J.region ?_
      refine O.p (Pu.fieldAddr (off' := 2) Try.runUnderlying44 rfl Try.sizeOf3 rfl rfl rfl) rfl ?_
      refine O.q (Qt.ld rfl (Cel.var 1 rfl) (o := 0) (off := 2) rfl (Cut.one Try.isAgg3 rfl)) rfl ?_
      refine O.p (Pu.neq rfl rfl) rfl ?_
      refine O.nil ?_
      refine J.cond rfl (fun h8 => ?_) (fun h8 => ?_)
      ·
        have p9 := of_decide_eq_true h8
        refine J.region ?_
        refine O.p (Pu.move rfl) rfl ?_
        refine O.p (Pu.fieldAddr (off' := 2) Try.runUnderlying101 rfl Try.sizeOf3 rfl rfl rfl) rfl ?_
        refine O.l0 (Lo.store 2 (vs := [.int .i64 1]) [.int .i64 m.way, .int .i64 no, .int .i64 1, .int .i64 k.at_] rfl rfl rfl (by exact Try.sizeOf3) rfl rfl rfl rfl rfl) ?_
        rintro _ _ rfl
        refine O.p (Pu.fieldAddr (off' := 3) Try.runUnderlying101 rfl Try.sizeOf3 rfl rfl rfl) rfl ?_
        refine O.l0 (Lo.store 2 (vs := [.int .i64 no]) [.int .i64 m.way, .int .i64 no, .int .i64 1, .int .i64 no] rfl rfl rfl (by exact Try.sizeOf3) rfl rfl rfl rfl rfl) ?_
        rintro _ _ rfl
        refine O.nil ?_
        refine J.seq ?_
        refine J.region ?_
        refine O.q (Qt.ld rfl (Cel.var 2 rfl) (o := 0) (off := 0) rfl (Cut.agg [.int .i64 m.way, .int .i64 no, .int .i64 1, .int .i64 no] Try.isAgg101 Try.sizeOf101 rfl rfl)) rfl ?_
        refine O.l0 (Lo.store 0 (vs := [.int .i64 m.way, .int .i64 no, .int .i64 1, .int .i64 no]) [.int .i64 m.way, .int .i64 no, .int .i64 1, .int .i64 no] rfl rfl rfl (by exact Try.sizeOf101) rfl rfl rfl rfl rfl) ?_
        rintro _ _ rfl
        refine O.nil ?_
        exact J.ret (Fin.ret (rs := [.cell 6 101]) rfl [_] ⟨⟨_, _, 0, 0, _, rfl, (Cel.var 0 rfl), rfl, (Cut.agg [.int .i64 m.way, .int .i64 no, .int .i64 1, .int .i64 no] Try.isAgg101 Try.sizeOf101 rfl rfl)⟩, trivial⟩ [] (by decide) [] rfl ⟨by simp [vOf, Dw.note, *], rfl⟩)
      ·
        have p10 := of_decide_eq_false h8
        refine J.skip ?_
        refine J.seq ?_
        refine J.region ?_
        refine O.q (Qt.ld rfl (Cel.var 2 rfl) (o := 0) (off := 0) rfl (Cut.agg [.int .i64 m.way, .int .i64 no, .int .i64 k.dim, .int .i64 k.at_] Try.isAgg101 Try.sizeOf101 rfl rfl)) rfl ?_
        refine O.l0 (Lo.store 0 (vs := [.int .i64 m.way, .int .i64 no, .int .i64 k.dim, .int .i64 k.at_]) [.int .i64 m.way, .int .i64 no, .int .i64 k.dim, .int .i64 k.at_] rfl rfl rfl (by exact Try.sizeOf101) rfl rfl rfl rfl rfl) ?_
        rintro _ _ rfl
        refine O.nil ?_
        exact J.ret (Fin.ret (rs := [.cell 6 101]) rfl [_] ⟨⟨_, _, 0, 0, _, rfl, (Cel.var 0 rfl), rfl, (Cut.agg [.int .i64 m.way, .int .i64 no, .int .i64 k.dim, .int .i64 k.at_] Try.isAgg101 Try.sizeOf101 rfl rfl)⟩, trivial⟩ [] (by decide) [] rfl ⟨by simp [vOf, Dw.note, *], rfl⟩)
    ·
      have p11 := of_decide_eq_false h6
      refine J.skip ?_
      refine J.seq ?_
      refine J.seq ?_
      refine J.region ?_
      refine O.p (Pu.fieldAddr (off' := 2) Try.runUnderlying44 rfl Try.sizeOf3 rfl rfl rfl) rfl ?_
      refine O.q (Qt.ld rfl (Cel.var 1 rfl) (o := 0) (off := 2) rfl (Cut.one Try.isAgg3 rfl)) rfl ?_
      refine O.p (Pu.neq rfl rfl) rfl ?_
      refine O.nil ?_
      refine J.cond rfl (fun h12 => ?_) (fun h12 => ?_)
      ·
        have p13 := of_decide_eq_true h12
        refine J.region ?_
        refine O.p (Pu.move rfl) rfl ?_
        refine O.p (Pu.fieldAddr (off' := 2) Try.runUnderlying101 rfl Try.sizeOf3 rfl rfl rfl) rfl ?_
        refine O.l0 (Lo.store 2 (vs := [.int .i64 1]) [.int .i64 k.way, .int .i64 k.frm, .int .i64 1, .int .i64 k.at_] rfl rfl rfl (by exact Try.sizeOf3) rfl rfl rfl rfl rfl) ?_
        rintro _ _ rfl
        refine O.p (Pu.fieldAddr (off' := 3) Try.runUnderlying101 rfl Try.sizeOf3 rfl rfl rfl) rfl ?_
        refine O.l0 (Lo.store 2 (vs := [.int .i64 no]) [.int .i64 k.way, .int .i64 k.frm, .int .i64 1, .int .i64 no] rfl rfl rfl (by exact Try.sizeOf3) rfl rfl rfl rfl rfl) ?_
        rintro _ _ rfl
        refine O.nil ?_
        refine J.seq ?_
        refine J.region ?_
        refine O.q (Qt.ld rfl (Cel.var 2 rfl) (o := 0) (off := 0) rfl (Cut.agg [.int .i64 k.way, .int .i64 k.frm, .int .i64 1, .int .i64 no] Try.isAgg101 Try.sizeOf101 rfl rfl)) rfl ?_
        refine O.l0 (Lo.store 0 (vs := [.int .i64 k.way, .int .i64 k.frm, .int .i64 1, .int .i64 no]) [.int .i64 k.way, .int .i64 k.frm, .int .i64 1, .int .i64 no] rfl rfl rfl (by exact Try.sizeOf101) rfl rfl rfl rfl rfl) ?_
        rintro _ _ rfl
        refine O.nil ?_
        exact J.ret (Fin.ret (rs := [.cell 6 101]) rfl [_] ⟨⟨_, _, 0, 0, _, rfl, (Cel.var 0 rfl), rfl, (Cut.agg [.int .i64 k.way, .int .i64 k.frm, .int .i64 1, .int .i64 no] Try.isAgg101 Try.sizeOf101 rfl rfl)⟩, trivial⟩ [] (by decide) [] rfl ⟨by simp [vOf, Dw.note, *], rfl⟩)
      ·
        have p14 := of_decide_eq_false h12
        refine J.skip ?_
        refine J.seq ?_
        refine J.region ?_
        refine O.q (Qt.ld rfl (Cel.var 2 rfl) (o := 0) (off := 0) rfl (Cut.agg [.int .i64 k.way, .int .i64 k.frm, .int .i64 k.dim, .int .i64 k.at_] Try.isAgg101 Try.sizeOf101 rfl rfl)) rfl ?_
        refine O.l0 (Lo.store 0 (vs := [.int .i64 k.way, .int .i64 k.frm, .int .i64 k.dim, .int .i64 k.at_]) [.int .i64 k.way, .int .i64 k.frm, .int .i64 k.dim, .int .i64 k.at_] rfl rfl rfl (by exact Try.sizeOf101) rfl rfl rfl rfl rfl) ?_
        rintro _ _ rfl
        refine O.nil ?_
        exact J.ret (Fin.ret (rs := [.cell 6 101]) rfl [_] ⟨⟨_, _, 0, 0, _, rfl, (Cel.var 0 rfl), rfl, (Cut.agg [.int .i64 k.way, .int .i64 k.frm, .int .i64 k.dim, .int .i64 k.at_] Try.isAgg101 Try.sizeOf101 rfl rfl)⟩, trivial⟩ [] (by decide) [] rfl ⟨by simp [vOf, Dw.note, *], rfl⟩)
  ·
    have p15 := of_decide_eq_false h4
    refine O.gskip (t := 10) rfl rfl (no_bool (by rw [h4]; decide)) rfl rfl ?_
    refine O.gskip (t := 10) rfl rfl (no_bool (by rw [h4]; decide)) rfl rfl ?_
    refine O.gskip (t := 10) rfl rfl (no_bool (by rw [h4]; decide)) rfl rfl ?_
    refine O.gskip (t := 10) rfl rfl (no_bool (by rw [h4]; decide)) rfl rfl ?_
    refine O.gskip (t := 10) rfl rfl (no_bool (by rw [h4]; decide)) rfl rfl ?_
    refine O.p (Pu.pickF rfl h4 rfl) rfl ?_
    refine O.nil ?_
    refine J.condF rfl rfl ?_
    refine J.skip ?_
    refine J.seq ?_
    refine J.seq ?_
    refine J.region ?_
    refine O.p (Pu.fieldAddr (off' := 2) Try.runUnderlying44 rfl Try.sizeOf3 rfl rfl rfl) rfl ?_
    refine O.q (Qt.ld rfl (Cel.var 1 rfl) (o := 0) (off := 2) rfl (Cut.one Try.isAgg3 rfl)) rfl ?_
    refine O.p (Pu.neq rfl rfl) rfl ?_
    refine O.nil ?_
    refine J.cond rfl (fun h16 => ?_) (fun h16 => ?_)
    ·
      have p17 := of_decide_eq_true h16
      refine J.region ?_
      refine O.p (Pu.move rfl) rfl ?_
      refine O.p (Pu.fieldAddr (off' := 2) Try.runUnderlying101 rfl Try.sizeOf3 rfl rfl rfl) rfl ?_
      refine O.l0 (Lo.store 2 (vs := [.int .i64 1]) [.int .i64 k.way, .int .i64 k.frm, .int .i64 1, .int .i64 k.at_] rfl rfl rfl (by exact Try.sizeOf3) rfl rfl rfl rfl rfl) ?_
      rintro _ _ rfl
      refine O.p (Pu.fieldAddr (off' := 3) Try.runUnderlying101 rfl Try.sizeOf3 rfl rfl rfl) rfl ?_
      refine O.l0 (Lo.store 2 (vs := [.int .i64 no]) [.int .i64 k.way, .int .i64 k.frm, .int .i64 1, .int .i64 no] rfl rfl rfl (by exact Try.sizeOf3) rfl rfl rfl rfl rfl) ?_
      rintro _ _ rfl
      refine O.nil ?_
      refine J.seq ?_
      refine J.region ?_
      refine O.q (Qt.ld rfl (Cel.var 2 rfl) (o := 0) (off := 0) rfl (Cut.agg [.int .i64 k.way, .int .i64 k.frm, .int .i64 1, .int .i64 no] Try.isAgg101 Try.sizeOf101 rfl rfl)) rfl ?_
      refine O.l0 (Lo.store 0 (vs := [.int .i64 k.way, .int .i64 k.frm, .int .i64 1, .int .i64 no]) [.int .i64 k.way, .int .i64 k.frm, .int .i64 1, .int .i64 no] rfl rfl rfl (by exact Try.sizeOf101) rfl rfl rfl rfl rfl) ?_
      rintro _ _ rfl
      refine O.nil ?_
      exact J.ret (Fin.ret (rs := [.cell 6 101]) rfl [_] ⟨⟨_, _, 0, 0, _, rfl, (Cel.var 0 rfl), rfl, (Cut.agg [.int .i64 k.way, .int .i64 k.frm, .int .i64 1, .int .i64 no] Try.isAgg101 Try.sizeOf101 rfl rfl)⟩, trivial⟩ [] (by decide) [] rfl ⟨by simp [vOf, Dw.note, *], rfl⟩)
    ·
      have p18 := of_decide_eq_false h16
      refine J.skip ?_
      refine J.seq ?_
      refine J.region ?_
      refine O.q (Qt.ld rfl (Cel.var 2 rfl) (o := 0) (off := 0) rfl (Cut.agg [.int .i64 k.way, .int .i64 k.frm, .int .i64 k.dim, .int .i64 k.at_] Try.isAgg101 Try.sizeOf101 rfl rfl)) rfl ?_
      refine O.l0 (Lo.store 0 (vs := [.int .i64 k.way, .int .i64 k.frm, .int .i64 k.dim, .int .i64 k.at_]) [.int .i64 k.way, .int .i64 k.frm, .int .i64 k.dim, .int .i64 k.at_] rfl rfl rfl (by exact Try.sizeOf101) rfl rfl rfl rfl rfl) ?_
      rintro _ _ rfl
      refine O.nil ?_
      exact J.ret (Fin.ret (rs := [.cell 6 101]) rfl [_] ⟨⟨_, _, 0, 0, _, rfl, (Cel.var 0 rfl), rfl, (Cut.agg [.int .i64 k.way, .int .i64 k.frm, .int .i64 k.dim, .int .i64 k.at_] Try.isAgg101 Try.sizeOf101 rfl rfl)⟩, trivial⟩ [] (by decide) [] rfl ⟨by simp [vOf, Dw.note, *], rfl⟩)

end Go.Proofs.Ytghhjhjpccipaaa
