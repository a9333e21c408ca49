/-
  Walks, printed by a program of mine (lk.py): each function meets its contract.
-/
import Derived.KernelRfl
import Derived.Test.YtghhjhjpccipaaaLD4
namespace Go.Proofs.Ytghhjhjpccipaaa
open Go Go.LK
set_option linter.unusedSimpArgs false

set_option maxRecDepth 100000 in
theorem ld_Waited (x : Ft) : Tri Try.prog 39 #[.agg #[.int .i64 x.s, .int .i64 x.id, .int .i64 x.state, .int .i64 x.level, .int .i64 x.code, .int .i64 x.came, .int .i64 x.began, .int .i64 x.ended]] [] [] (fun v L' => v = .tuple #[.int .i64 (Ld.waited x).1, .bool (Ld.waited x).2] ∧ L' = []) := by
  refine Tri.enter (args := [.agg #[.int .i64 x.s, .int .i64 x.id, .int .i64 x.state, .int .i64 x.level, .int .i64 x.code, .int .i64 x.came, .int .i64 x.began, .int .i64 x.ended]]) (body := _) 35 Try.func39 rfl Try.ntmps39 rfl ?_
  intro w0
  refine J.seq ?_
  refine J.region ?_
  refine O.l (Lo.box [.int .i64 x.s, .int .i64 x.id, .int .i64 x.state, .int .i64 x.level, .int .i64 x.code, .int .i64 x.came, .int .i64 x.began, .int .i64 x.ended] rfl rfl) rfl ?_
  rintro _ _ ⟨g1, rfl, rfl⟩
  refine O.p (Pu.assign rfl) rfl ?_
  refine O.p (Pu.assign rfl) rfl ?_
  refine O.nil ?_
  refine J.seq ?_
  refine J.region ?_
  refine O.p (Pu.fieldAddr (off' := 2) Try.runUnderlying61 rfl Try.sizeOf3 rfl rfl rfl) rfl ?_
  refine O.q (Qt.ld rfl (Cel.var 0 rfl) (o := 0) (off := 2) rfl (Cut.one Try.isAgg3 rfl)) rfl ?_
  refine O.p (Pu.eql rfl rfl) rfl ?_
  refine O.p (Pu.move rfl) rfl ?_
  refine by_bool (decide (x.state = 3)) (fun h2 => ?_) (fun h2 => ?_)
  ·
    have p3 := of_decide_eq_true h2
    refine O.gq (t := 8) rfl rfl h2 rfl (Pu.qt (Pu.fieldAddr (off' := 5) Try.runUnderlying61 rfl Try.sizeOf3 rfl rfl rfl)) rfl ?_
    refine O.gq (t := 8) rfl rfl h2 rfl (Qt.ld rfl (Cel.var 0 rfl) (o := 0) (off := 5) rfl (Cut.one Try.isAgg3 rfl)) rfl ?_
    refine O.gq (t := 8) rfl rfl h2 rfl (Pu.qt (Pu.eql rfl rfl)) rfl ?_
    refine O.p (Pu.pickT rfl h2 rfl) rfl ?_
    refine O.p (Pu.move rfl) rfl ?_
    refine by_bool (decide (x.came = 0)) (fun h4 => ?_) (fun h4 => ?_)
    ·
      have p5 := of_decide_eq_true h4
      refine O.gskip (t := 13) rfl rfl (no_bool (by rw [h4]; decide)) rfl rfl ?_
      refine O.gskip (t := 13) rfl rfl (no_bool (by rw [h4]; decide)) rfl rfl ?_
      refine O.gskip (t := 13) rfl rfl (no_bool (by rw [h4]; decide)) rfl rfl ?_
      refine O.p (Pu.pickT rfl h4 rfl) rfl ?_
      refine O.p (Pu.assign rfl) rfl ?_
      refine O.nil ?_
      refine J.seq ?_
      refine J.seq ?_
      refine J.region ?_
      refine O.p (Pu.move rfl) rfl ?_
      refine O.p (Pu.not rfl) rfl ?_
      refine O.p (Pu.move rfl) rfl ?_
      refine O.gq (t := 20) rfl rfl rfl rfl (Pu.qt (Pu.fieldAddr (off' := 2) Try.runUnderlying61 rfl Try.sizeOf3 rfl rfl rfl)) rfl ?_
      refine O.gq (t := 20) rfl rfl rfl rfl (Qt.ld rfl (Cel.var 0 rfl) (o := 0) (off := 2) rfl (Cut.one Try.isAgg3 rfl)) rfl ?_
      refine O.gq (t := 20) rfl rfl rfl rfl (Pu.qt (Pu.neq rfl rfl)) rfl ?_
      refine O.gq (t := 20) rfl rfl rfl rfl (Pu.qt (Pu.move rfl)) rfl ?_
      refine by_bool (decide (x.state ≠ 3)) (fun h6 => ?_) (fun h6 => ?_)
      ·
        have p7 := of_decide_eq_true h6
        refine O.gq (t := 24) rfl rfl h6 rfl (Pu.qt (Pu.fieldAddr (off' := 2) Try.runUnderlying61 rfl Try.sizeOf3 rfl rfl rfl)) rfl ?_
        refine O.gq (t := 24) rfl rfl h6 rfl (Qt.ld rfl (Cel.var 0 rfl) (o := 0) (off := 2) rfl (Cut.one Try.isAgg3 rfl)) rfl ?_
        refine O.gq (t := 24) rfl rfl h6 rfl (Pu.qt (Pu.neq rfl rfl)) rfl ?_
        refine O.gq (t := 20) rfl rfl rfl rfl (Pu.qt (Pu.pickT rfl h6 rfl)) rfl ?_
        refine O.p (Pu.pickF rfl rfl rfl) rfl ?_
        refine O.nil ?_
        refine J.cond rfl (fun h8 => ?_) (fun h8 => ?_)
        ·
          have p9 := of_decide_eq_true h8
          refine J.seq ?_
          refine J.region ?_
          refine O.p (Pu.assign rfl) rfl ?_
          refine O.p (Pu.assign rfl) rfl ?_
          refine O.nil ?_
          exact J.ret (Fin.ret (rs := [.tmp 2, .tmp 3]) rfl [_, _] ⟨rfl, rfl, trivial⟩ [] (by decide) [] rfl ⟨(by first | (exfalso; omega) | (simp_all [vOf, Ld.waited]; done)), rfl⟩)
        ·
          have p10 := of_decide_eq_false h8
          refine J.skip ?_
          refine J.seq ?_
          refine J.region ?_
          refine O.p (Pu.fieldAddr (off' := 6) Try.runUnderlying61 rfl Try.sizeOf3 rfl rfl rfl) rfl ?_
          refine O.q (Qt.ld rfl (Cel.var 0 rfl) (o := 0) (off := 6) rfl (Cut.one Try.isAgg3 rfl)) rfl ?_
          refine O.p (Pu.fieldAddr (off' := 5) Try.runUnderlying61 rfl Try.sizeOf3 rfl rfl rfl) rfl ?_
          refine O.q (Qt.ld rfl (Cel.var 0 rfl) (o := 0) (off := 5) rfl (Cut.one Try.isAgg3 rfl)) rfl ?_
          refine O.p (Pu.sub rfl rfl) rfl ?_
          refine O.p (Pu.assign rfl) rfl ?_
          refine O.p (Pu.assign rfl) rfl ?_
          refine O.nil ?_
          exact J.ret (Fin.ret (rs := [.tmp 2, .tmp 3]) rfl [_, _] ⟨rfl, rfl, trivial⟩ [] (by decide) [] rfl ⟨(by first | (exfalso; omega) | (simp_all [vOf, Ld.waited]; done)), rfl⟩)
      ·
        have p11 := of_decide_eq_false h6
        refine O.gskip (t := 24) rfl rfl (no_bool (by rw [h6]; decide)) rfl rfl ?_
        refine O.gskip (t := 24) rfl rfl (no_bool (by rw [h6]; decide)) rfl rfl ?_
        refine O.gskip (t := 24) rfl rfl (no_bool (by rw [h6]; decide)) rfl rfl ?_
        refine O.gq (t := 20) rfl rfl rfl rfl (Pu.qt (Pu.pickF rfl h6 rfl)) rfl ?_
        refine O.p (Pu.pickF rfl rfl rfl) rfl ?_
        refine O.nil ?_
        refine J.condF rfl rfl ?_
        refine J.skip ?_
        refine J.seq ?_
        refine J.region ?_
        refine O.p (Pu.fieldAddr (off' := 6) Try.runUnderlying61 rfl Try.sizeOf3 rfl rfl rfl) rfl ?_
        refine O.q (Qt.ld rfl (Cel.var 0 rfl) (o := 0) (off := 6) rfl (Cut.one Try.isAgg3 rfl)) rfl ?_
        refine O.p (Pu.fieldAddr (off' := 5) Try.runUnderlying61 rfl Try.sizeOf3 rfl rfl rfl) rfl ?_
        refine O.q (Qt.ld rfl (Cel.var 0 rfl) (o := 0) (off := 5) rfl (Cut.one Try.isAgg3 rfl)) rfl ?_
        refine O.p (Pu.sub rfl rfl) rfl ?_
        refine O.p (Pu.assign rfl) rfl ?_
        refine O.p (Pu.assign rfl) rfl ?_
        refine O.nil ?_
        exact J.ret (Fin.ret (rs := [.tmp 2, .tmp 3]) rfl [_, _] ⟨rfl, rfl, trivial⟩ [] (by decide) [] rfl ⟨(by first | (exfalso; omega) | (simp_all [vOf, Ld.waited]; done)), rfl⟩)
    ·
      have p12 := of_decide_eq_false h4
      refine O.gq (t := 13) rfl rfl h4 rfl (Pu.qt (Pu.fieldAddr (off' := 6) Try.runUnderlying61 rfl Try.sizeOf3 rfl rfl rfl)) rfl ?_
      refine O.gq (t := 13) rfl rfl h4 rfl (Qt.ld rfl (Cel.var 0 rfl) (o := 0) (off := 6) rfl (Cut.one Try.isAgg3 rfl)) rfl ?_
      refine O.gq (t := 13) rfl rfl h4 rfl (Pu.qt (Pu.neq rfl rfl)) rfl ?_
      refine O.p (Pu.pickF rfl h4 rfl) rfl ?_
      refine O.p (Pu.assign rfl) rfl ?_
      refine O.nil ?_
      refine J.seq ?_
      refine J.seq ?_
      refine J.region ?_
      refine O.p (Pu.move rfl) rfl ?_
      refine O.p (Pu.not rfl) rfl ?_
      refine O.p (Pu.move rfl) rfl ?_
      refine by_bool (!(decide (x.began ≠ 0))) (fun h13 => ?_) (fun h13 => ?_)
      ·
        have h14 : (decide (x.began ≠ 0)) = false := not_flip h13
        have p15 := of_decide_eq_false h14
        refine O.gskip (t := 20) rfl rfl (no_bool (by rw [h13]; decide)) rfl rfl ?_
        refine O.gskip (t := 20) rfl rfl (no_bool (by rw [h13]; decide)) rfl rfl ?_
        refine O.gskip (t := 20) rfl rfl (no_bool (by rw [h13]; decide)) rfl rfl ?_
        refine O.gskip (t := 20) rfl rfl (no_bool (by rw [h13]; decide)) rfl rfl ?_
        refine O.gskip (t := 24) rfl rfl (no_undef _) rfl rfl ?_
        refine O.gskip (t := 24) rfl rfl (no_undef _) rfl rfl ?_
        refine O.gskip (t := 24) rfl rfl (no_undef _) rfl rfl ?_
        refine O.gskip (t := 20) rfl rfl (no_bool (by rw [h13]; decide)) rfl rfl ?_
        refine O.p (Pu.pickT rfl h13 rfl) rfl ?_
        refine O.nil ?_
        refine J.condT rfl rfl ?_
        refine J.seq ?_
        refine J.region ?_
        refine O.p (Pu.assign rfl) rfl ?_
        refine O.p (Pu.assign rfl) rfl ?_
        refine O.nil ?_
        exact J.ret (Fin.ret (rs := [.tmp 2, .tmp 3]) rfl [_, _] ⟨rfl, rfl, trivial⟩ [] (by decide) [] rfl ⟨(by first | (exfalso; omega) | (simp_all [vOf, Ld.waited]; done)), rfl⟩)
      ·
        have h16 : (decide (x.began ≠ 0)) = true := not_flip h13
        have p17 := of_decide_eq_true h16
        refine O.gq (t := 20) rfl rfl h13 rfl (Pu.qt (Pu.fieldAddr (off' := 2) Try.runUnderlying61 rfl Try.sizeOf3 rfl rfl rfl)) rfl ?_
        refine O.gq (t := 20) rfl rfl h13 rfl (Qt.ld rfl (Cel.var 0 rfl) (o := 0) (off := 2) rfl (Cut.one Try.isAgg3 rfl)) rfl ?_
        refine O.gq (t := 20) rfl rfl h13 rfl (Pu.qt (Pu.neq rfl rfl)) rfl ?_
        refine O.gq (t := 20) rfl rfl h13 rfl (Pu.qt (Pu.move rfl)) rfl ?_
        refine by_bool (decide (x.state ≠ 3)) (fun h18 => ?_) (fun h18 => ?_)
        ·
          have p19 := of_decide_eq_true h18
          refine O.gq (t := 24) rfl rfl h18 rfl (Pu.qt (Pu.fieldAddr (off' := 2) Try.runUnderlying61 rfl Try.sizeOf3 rfl rfl rfl)) rfl ?_
          refine O.gq (t := 24) rfl rfl h18 rfl (Qt.ld rfl (Cel.var 0 rfl) (o := 0) (off := 2) rfl (Cut.one Try.isAgg3 rfl)) rfl ?_
          refine O.gq (t := 24) rfl rfl h18 rfl (Pu.qt (Pu.neq rfl rfl)) rfl ?_
          refine O.gq (t := 20) rfl rfl h13 rfl (Pu.qt (Pu.pickT rfl h18 rfl)) rfl ?_
          refine O.p (Pu.pickF rfl h13 rfl) rfl ?_
          refine O.nil ?_
          refine J.cond rfl (fun h20 => ?_) (fun h20 => ?_)
          ·
            have p21 := of_decide_eq_true h20
            refine J.seq ?_
            refine J.region ?_
            refine O.p (Pu.assign rfl) rfl ?_
            refine O.p (Pu.assign rfl) rfl ?_
            refine O.nil ?_
            exact J.ret (Fin.ret (rs := [.tmp 2, .tmp 3]) rfl [_, _] ⟨rfl, rfl, trivial⟩ [] (by decide) [] rfl ⟨(by first | (exfalso; omega) | (simp_all [vOf, Ld.waited]; done)), rfl⟩)
          ·
            have p22 := of_decide_eq_false h20
            refine J.skip ?_
            refine J.seq ?_
            refine J.region ?_
            refine O.p (Pu.fieldAddr (off' := 6) Try.runUnderlying61 rfl Try.sizeOf3 rfl rfl rfl) rfl ?_
            refine O.q (Qt.ld rfl (Cel.var 0 rfl) (o := 0) (off := 6) rfl (Cut.one Try.isAgg3 rfl)) rfl ?_
            refine O.p (Pu.fieldAddr (off' := 5) Try.runUnderlying61 rfl Try.sizeOf3 rfl rfl rfl) rfl ?_
            refine O.q (Qt.ld rfl (Cel.var 0 rfl) (o := 0) (off := 5) rfl (Cut.one Try.isAgg3 rfl)) rfl ?_
            refine O.p (Pu.sub rfl rfl) rfl ?_
            refine O.p (Pu.assign rfl) rfl ?_
            refine O.p (Pu.assign rfl) rfl ?_
            refine O.nil ?_
            exact J.ret (Fin.ret (rs := [.tmp 2, .tmp 3]) rfl [_, _] ⟨rfl, rfl, trivial⟩ [] (by decide) [] rfl ⟨(by first | (exfalso; omega) | (simp_all [vOf, Ld.waited]; done)), rfl⟩)
        ·
          have p23 := of_decide_eq_false h18
          refine O.gskip (t := 24) rfl rfl (no_bool (by rw [h18]; decide)) rfl rfl ?_
          refine O.gskip (t := 24) rfl rfl (no_bool (by rw [h18]; decide)) rfl rfl ?_
          refine O.gskip (t := 24) rfl rfl (no_bool (by rw [h18]; decide)) rfl rfl ?_
          refine O.gq (t := 20) rfl rfl h13 rfl (Pu.qt (Pu.pickF rfl h18 rfl)) rfl ?_
          refine O.p (Pu.pickF rfl h13 rfl) rfl ?_
          refine O.nil ?_
          refine J.condF rfl rfl ?_
          refine J.skip ?_
          refine J.seq ?_
          refine J.region ?_
          refine O.p (Pu.fieldAddr (off' := 6) Try.runUnderlying61 rfl Try.sizeOf3 rfl rfl rfl) rfl ?_
          refine O.q (Qt.ld rfl (Cel.var 0 rfl) (o := 0) (off := 6) rfl (Cut.one Try.isAgg3 rfl)) rfl ?_
          refine O.p (Pu.fieldAddr (off' := 5) Try.runUnderlying61 rfl Try.sizeOf3 rfl rfl rfl) rfl ?_
          refine O.q (Qt.ld rfl (Cel.var 0 rfl) (o := 0) (off := 5) rfl (Cut.one Try.isAgg3 rfl)) rfl ?_
          refine O.p (Pu.sub rfl rfl) rfl ?_
          refine O.p (Pu.assign rfl) rfl ?_
          refine O.p (Pu.assign rfl) rfl ?_
          refine O.nil ?_
          exact J.ret (Fin.ret (rs := [.tmp 2, .tmp 3]) rfl [_, _] ⟨rfl, rfl, trivial⟩ [] (by decide) [] rfl ⟨(by first | (exfalso; omega) | (simp_all [vOf, Ld.waited]; done)), rfl⟩)
  ·
    have p24 := of_decide_eq_false h2
    refine O.gskip (t := 8) rfl rfl (no_bool (by rw [h2]; decide)) rfl rfl ?_
    refine O.gskip (t := 8) rfl rfl (no_bool (by rw [h2]; decide)) rfl rfl ?_
    refine O.gskip (t := 8) rfl rfl (no_bool (by rw [h2]; decide)) rfl rfl ?_
    refine O.p (Pu.pickF rfl h2 rfl) rfl ?_
    refine O.p (Pu.move rfl) rfl ?_
    refine O.gq (t := 13) rfl rfl rfl rfl (Pu.qt (Pu.fieldAddr (off' := 6) Try.runUnderlying61 rfl Try.sizeOf3 rfl rfl rfl)) rfl ?_
    refine O.gq (t := 13) rfl rfl rfl rfl (Qt.ld rfl (Cel.var 0 rfl) (o := 0) (off := 6) rfl (Cut.one Try.isAgg3 rfl)) rfl ?_
    refine O.gq (t := 13) rfl rfl rfl rfl (Pu.qt (Pu.neq rfl rfl)) rfl ?_
    refine O.p (Pu.pickF rfl rfl rfl) rfl ?_
    refine O.p (Pu.assign rfl) rfl ?_
    refine O.nil ?_
    refine J.seq ?_
    refine J.seq ?_
    refine J.region ?_
    refine O.p (Pu.move rfl) rfl ?_
    refine O.p (Pu.not rfl) rfl ?_
    refine O.p (Pu.move rfl) rfl ?_
    refine by_bool (!(decide (x.began ≠ 0))) (fun h25 => ?_) (fun h25 => ?_)
    ·
      have h26 : (decide (x.began ≠ 0)) = false := not_flip h25
      have p27 := of_decide_eq_false h26
      refine O.gskip (t := 20) rfl rfl (no_bool (by rw [h25]; decide)) rfl rfl ?_
      refine O.gskip (t := 20) rfl rfl (no_bool (by rw [h25]; decide)) rfl rfl ?_
      refine O.gskip (t := 20) rfl rfl (no_bool (by rw [h25]; decide)) rfl rfl ?_
      refine O.gskip (t := 20) rfl rfl (no_bool (by rw [h25]; decide)) rfl rfl ?_
      refine O.gskip (t := 24) rfl rfl (no_undef _) rfl rfl ?_
      refine O.gskip (t := 24) rfl rfl (no_undef _) rfl rfl ?_
      refine O.gskip (t := 24) rfl rfl (no_undef _) rfl rfl ?_
      refine O.gskip (t := 20) rfl rfl (no_bool (by rw [h25]; decide)) rfl rfl ?_
      refine O.p (Pu.pickT rfl h25 rfl) rfl ?_
      refine O.nil ?_
      refine J.condT rfl rfl ?_
      refine J.seq ?_
      refine J.region ?_
      refine O.p (Pu.assign rfl) rfl ?_
      refine O.p (Pu.assign rfl) rfl ?_
      refine O.nil ?_
      exact J.ret (Fin.ret (rs := [.tmp 2, .tmp 3]) rfl [_, _] ⟨rfl, rfl, trivial⟩ [] (by decide) [] rfl ⟨(by first | (exfalso; omega) | (simp_all [vOf, Ld.waited]; done)), rfl⟩)
    ·
      have h28 : (decide (x.began ≠ 0)) = true := not_flip h25
      have p29 := of_decide_eq_true h28
      refine O.gq (t := 20) rfl rfl h25 rfl (Pu.qt (Pu.fieldAddr (off' := 2) Try.runUnderlying61 rfl Try.sizeOf3 rfl rfl rfl)) rfl ?_
      refine O.gq (t := 20) rfl rfl h25 rfl (Qt.ld rfl (Cel.var 0 rfl) (o := 0) (off := 2) rfl (Cut.one Try.isAgg3 rfl)) rfl ?_
      refine O.gq (t := 20) rfl rfl h25 rfl (Pu.qt (Pu.neq rfl rfl)) rfl ?_
      refine O.gq (t := 20) rfl rfl h25 rfl (Pu.qt (Pu.move rfl)) rfl ?_
      refine by_bool (decide (x.state ≠ 3)) (fun h30 => ?_) (fun h30 => ?_)
      ·
        have p31 := of_decide_eq_true h30
        refine O.gq (t := 24) rfl rfl h30 rfl (Pu.qt (Pu.fieldAddr (off' := 2) Try.runUnderlying61 rfl Try.sizeOf3 rfl rfl rfl)) rfl ?_
        refine O.gq (t := 24) rfl rfl h30 rfl (Qt.ld rfl (Cel.var 0 rfl) (o := 0) (off := 2) rfl (Cut.one Try.isAgg3 rfl)) rfl ?_
        refine O.gq (t := 24) rfl rfl h30 rfl (Pu.qt (Pu.neq rfl rfl)) rfl ?_
        refine O.gq (t := 20) rfl rfl h25 rfl (Pu.qt (Pu.pickT rfl h30 rfl)) rfl ?_
        refine O.p (Pu.pickF rfl h25 rfl) rfl ?_
        refine O.nil ?_
        refine J.cond rfl (fun h32 => ?_) (fun h32 => ?_)
        ·
          have p33 := of_decide_eq_true h32
          refine J.seq ?_
          refine J.region ?_
          refine O.p (Pu.assign rfl) rfl ?_
          refine O.p (Pu.assign rfl) rfl ?_
          refine O.nil ?_
          exact J.ret (Fin.ret (rs := [.tmp 2, .tmp 3]) rfl [_, _] ⟨rfl, rfl, trivial⟩ [] (by decide) [] rfl ⟨(by first | (exfalso; omega) | (simp_all [vOf, Ld.waited]; done)), rfl⟩)
        ·
          have p34 := of_decide_eq_false h32
          refine J.skip ?_
          refine J.seq ?_
          refine J.region ?_
          refine O.p (Pu.fieldAddr (off' := 6) Try.runUnderlying61 rfl Try.sizeOf3 rfl rfl rfl) rfl ?_
          refine O.q (Qt.ld rfl (Cel.var 0 rfl) (o := 0) (off := 6) rfl (Cut.one Try.isAgg3 rfl)) rfl ?_
          refine O.p (Pu.fieldAddr (off' := 5) Try.runUnderlying61 rfl Try.sizeOf3 rfl rfl rfl) rfl ?_
          refine O.q (Qt.ld rfl (Cel.var 0 rfl) (o := 0) (off := 5) rfl (Cut.one Try.isAgg3 rfl)) rfl ?_
          refine O.p (Pu.sub rfl rfl) rfl ?_
          refine O.p (Pu.assign rfl) rfl ?_
          refine O.p (Pu.assign rfl) rfl ?_
          refine O.nil ?_
          exact J.ret (Fin.ret (rs := [.tmp 2, .tmp 3]) rfl [_, _] ⟨rfl, rfl, trivial⟩ [] (by decide) [] rfl ⟨(by first | (exfalso; omega) | (simp_all [vOf, Ld.waited]; done)), rfl⟩)
      ·
        have p35 := of_decide_eq_false h30
        refine O.gskip (t := 24) rfl rfl (no_bool (by rw [h30]; decide)) rfl rfl ?_
        refine O.gskip (t := 24) rfl rfl (no_bool (by rw [h30]; decide)) rfl rfl ?_
        refine O.gskip (t := 24) rfl rfl (no_bool (by rw [h30]; decide)) rfl rfl ?_
        refine O.gq (t := 20) rfl rfl h25 rfl (Pu.qt (Pu.pickF rfl h30 rfl)) rfl ?_
        refine O.p (Pu.pickF rfl h25 rfl) rfl ?_
        refine O.nil ?_
        refine J.condF rfl rfl ?_
        refine J.skip ?_
        refine J.seq ?_
        refine J.region ?_
        refine O.p (Pu.fieldAddr (off' := 6) Try.runUnderlying61 rfl Try.sizeOf3 rfl rfl rfl) rfl ?_
        refine O.q (Qt.ld rfl (Cel.var 0 rfl) (o := 0) (off := 6) rfl (Cut.one Try.isAgg3 rfl)) rfl ?_
        refine O.p (Pu.fieldAddr (off' := 5) Try.runUnderlying61 rfl Try.sizeOf3 rfl rfl rfl) rfl ?_
        refine O.q (Qt.ld rfl (Cel.var 0 rfl) (o := 0) (off := 5) rfl (Cut.one Try.isAgg3 rfl)) rfl ?_
        refine O.p (Pu.sub rfl rfl) rfl ?_
        refine O.p (Pu.assign rfl) rfl ?_
        refine O.p (Pu.assign rfl) rfl ?_
        refine O.nil ?_
        exact J.ret (Fin.ret (rs := [.tmp 2, .tmp 3]) rfl [_, _] ⟨rfl, rfl, trivial⟩ [] (by decide) [] rfl ⟨(by first | (exfalso; omega) | (simp_all [vOf, Ld.waited]; done)), rfl⟩)

set_option maxRecDepth 100000 in
theorem ld_Open (fv : Value) (l : List Ft) (hl : l.length ≤ 80000) : Tri Try.prog 33 #[fv] [rd fv 8 (l.map Ft.cells)] [] (fun v L' => L' = [row v 61 8 ((Ld.opened l).map Ft.cells)]) := by
  refine Tri.enter (args := [fv]) (body := _) 20 Try.func33 rfl Try.ntmps33 rfl ?_
  intro w0
  refine J.seq ?_
  refine J.region ?_
  refine O.p (Pu.assign rfl) rfl ?_
  refine O.nil ?_
  refine J.seq ?_
  refine J.region ?_
  refine O.p (Pu.assign rfl) rfl ?_
  refine O.nil ?_
  refine J.seq ?_
  refine J.seq ?_
  refine J.region ?_
  refine O.p (Pu.move rfl) rfl ?_
  refine O.q (Qt.lenM Try.runUnderlying55 rfl (Src.ro 0 rfl)) rfl ?_
  refine O.p (Pu.move rfl) rfl ?_
  refine O.nil ?_
  refine J.block ?_
  refine J.nilRow 61 8 ?_
  refine J.loop (X := Nat × Value × List Ft) (fun ξ => ξ.1 ≤ l.length ∧ ξ.2.2 = (l.take ξ.1).filter Ld.isOpen ∧ ξ.2.2.length ≤ ξ.1) (fun ξ => [(2, Value.slice none 0 0), (3, ξ.2.1), (6, fv), (7, .int .i64 (l.length : Int)), (8, .int .i64 (ξ.1 : Int))]) (fun ξ => [row ξ.2.1 61 8 (ξ.2.2.map Ft.cells)]) (fun ξ => l.length - ξ.1) ⟨0, Value.slice none 0 0, []⟩ (show 0 ≤ l.length ∧ ([]) = (l.take 0).filter Ld.isOpen ∧ ([]).length ≤ 0 from ⟨by omega, rfl, by simp⟩) ⟨rfl, rfl, rfl, rfl, (congrArg (fun z => some (Value.int .i64 z)) (by first | rfl | omega : (0 : Int) = (0 : Int))), trivial⟩ [0] (by decide) rfl ?_
  rintro ⟨k, V, out⟩ hq1
  obtain ⟨hk, hst, hlen⟩ : k ≤ l.length ∧ out = (l.take k).filter Ld.isOpen ∧ out.length ≤ k := hq1
  show J _ _ [(2, Value.slice none 0 0), (3, V), (6, fv), (7, .int .i64 (l.length : Int)), (8, .int .i64 (k : Int))] [row V 61 8 (out.map Ft.cells)]
  refine J.seq ?_
  refine J.region ?_
  refine O.p (Pu.lss rfl rfl) rfl ?_
  refine O.nil ?_
  refine J.seq ?_
  refine J.cond rfl (fun h2 => ?_) (fun h2 => ?_)
  ·
    have p3 := of_decide_eq_true h2
    refine J.skip ?_
    refine J.seq ?_
    refine J.block ?_
    refine J.seq ?_
    refine J.region ?_
    obtain ⟨e4, he4⟩ : ∃ x_, l[k]? = some x_ := ⟨_, List.getElem?_eq_getElem (by first | omega | (simp only [List.length_append, List.length_cons, List.length_nil, List.length_set]; omega))⟩
    refine O.q (Qt.idxM Try.runUnderlying55 Try.sizeOf61 rfl (Src.ro 0 rfl) rfl (by first | omega | (simp only [List.length_append, List.length_cons, List.length_nil, List.length_set]; omega)) (by first | omega | (simp only [List.length_append, List.length_cons, List.length_nil, List.length_set]; omega))) rfl ?_
    refine O.q (Qt.ld rfl (Cel.eltM (Src.ro 0 rfl) he4) (o := (voff fv + k * 8)) (off := 0) (by omega) (Cut.agg [.int .i64 e4.s, .int .i64 e4.id, .int .i64 e4.state, .int .i64 e4.level, .int .i64 e4.code, .int .i64 e4.came, .int .i64 e4.began, .int .i64 e4.ended] Try.isAgg61 Try.sizeOf61 rfl rfl)) rfl ?_
    refine O.l (Lo.alloc [.int .i64 0, .int .i64 0, .int .i64 0, .int .i64 0, .int .i64 0, .int .i64 0, .int .i64 0, .int .i64 0] (by exact Try.zeroValue61) rfl) rfl ?_
    rintro _ _ ⟨g5, rfl, rfl⟩
    refine O.l0 (Lo.store 0 (vs := [.int .i64 e4.s, .int .i64 e4.id, .int .i64 e4.state, .int .i64 e4.level, .int .i64 e4.code, .int .i64 e4.came, .int .i64 e4.began, .int .i64 e4.ended]) [.int .i64 e4.s, .int .i64 e4.id, .int .i64 e4.state, .int .i64 e4.level, .int .i64 e4.code, .int .i64 e4.came, .int .i64 e4.began, .int .i64 e4.ended] rfl rfl rfl (by exact Try.sizeOf61) rfl rfl rfl rfl rfl) ?_
    rintro _ _ rfl
    refine O.nil ?_
    refine J.seq ?_
    refine J.region ?_
    refine O.q (Qt.ld rfl (Cel.var 0 rfl) (o := 0) (off := 0) rfl (Cut.agg [.int .i64 e4.s, .int .i64 e4.id, .int .i64 e4.state, .int .i64 e4.level, .int .i64 e4.code, .int .i64 e4.came, .int .i64 e4.began, .int .i64 e4.ended] Try.isAgg61 Try.sizeOf61 rfl rfl)) rfl ?_
    refine O.l (Lo.call [.agg #[.int .i64 e4.s, .int .i64 e4.id, .int .i64 e4.state, .int .i64 e4.level, .int .i64 e4.code, .int .i64 e4.came, .int .i64 e4.began, .int .i64 e4.ended]] (by exact Try.call74) rfl (ld_open e4) [] [0, 1] (by decide) rfl _ rfl RoOk.nil) rfl ?_
    rintro _ _ ⟨_, ⟨rfl, rfl⟩, rfl⟩
    refine O.nil ?_
    refine J.cond rfl (fun h7 => ?_) (fun h7 => ?_)
    ·
      refine J.region ?_
      refine O.p (Pu.move rfl) rfl ?_
      refine O.q (Qt.ld rfl (Cel.var 0 rfl) (o := 0) (off := 0) rfl (Cut.agg [.int .i64 e4.s, .int .i64 e4.id, .int .i64 e4.state, .int .i64 e4.level, .int .i64 e4.code, .int .i64 e4.came, .int .i64 e4.began, .int .i64 e4.ended] Try.isAgg61 Try.sizeOf61 rfl rfl)) rfl ?_
      refine O.l (Lo.buildM (s := 8) Ft.cells [e4] [(0, .agg #[.int .i64 e4.s, .int .i64 e4.id, .int .i64 e4.state, .int .i64 e4.level, .int .i64 e4.code, .int .i64 e4.came, .int .i64 e4.began, .int .i64 e4.ended])] (by exact Try.runUnderlying55) (by exact Try.sizeOf61) (by exact Try.zeroValue61) rfl rfl rfl (by kernel_rfl) rfl rfl) rfl ?_
      rintro V8 _ rfl
      refine O.l (Lo.appendM (s := 8) 2 (by exact Try.underlying55) (by exact (info61).1) (by exact (info61).2.1) (by exact (info61).2.2.1) (by exact (info61).2.2.2) rfl rfl rfl rfl rfl (Src.row 0 rfl) Ft.one (by first | omega | (simp only [List.length_append, List.length_cons, List.length_nil, List.length_set]; omega)) (by first | omega | (simp only [List.length_append, List.length_cons, List.length_nil, List.length_set]; omega))) rfl ?_
      rintro V9 _ rfl
      refine O.p (Pu.assign rfl) rfl ?_
      refine O.nil ?_
      refine J.blk ?_
      refine J.region ?_
      refine O.p (Pu.add' rfl rfl (by first | omega | (simp only [List.length_append, List.length_cons, List.length_nil, List.length_set]; omega))) rfl ?_
      refine O.p (Pu.move rfl) rfl ?_
      refine O.nil ?_
      exact J.lp ⟨k + 1, V9, out ++ ([e4])⟩ (show (k + 1) ≤ l.length ∧ (out ++ ([e4])) = (l.take (k + 1)).filter Ld.isOpen ∧ (out ++ ([e4])).length ≤ (k + 1) from ⟨by omega, Ld.open_next (by assumption) hst (by first | (simp [*]; done) | (simp [Ld.isOpen, *]; done)), by first | omega | (simp only [List.length_append, List.length_singleton]; omega)⟩) (show l.length - (k + 1) < l.length - k from (by first | omega | (simp only [List.length_append, List.length_cons, List.length_nil, List.length_set]; omega))) ⟨rfl, rfl, rfl, rfl, (congrArg (fun z => some (Value.int .i64 z)) (by first | rfl | omega : ((k : Int) + 1 : Int) = ((k + 1) : Int))), trivial⟩ [2] (by decide) rfl
    ·
      refine J.skip ?_
      refine J.blk ?_
      refine J.region ?_
      refine O.p (Pu.add' rfl rfl (by first | omega | (simp only [List.length_append, List.length_cons, List.length_nil, List.length_set]; omega))) rfl ?_
      refine O.p (Pu.move rfl) rfl ?_
      refine O.nil ?_
      exact J.lp ⟨k + 1, V, out⟩ (show (k + 1) ≤ l.length ∧ out = (l.take (k + 1)).filter Ld.isOpen ∧ out.length ≤ (k + 1) from ⟨by omega, Ld.open_next (by assumption) hst (by first | (simp [*]; done) | (simp [Ld.isOpen, *]; done)), by first | omega | (simp only [List.length_append, List.length_singleton]; omega)⟩) (show l.length - (k + 1) < l.length - k from (by first | omega | (simp only [List.length_append, List.length_cons, List.length_nil, List.length_set]; omega))) ⟨rfl, rfl, rfl, rfl, (congrArg (fun z => some (Value.int .i64 z)) (by first | rfl | omega : ((k : Int) + 1 : Int) = ((k + 1) : Int))), trivial⟩ [1] (by decide) rfl
  ·
    have p10 := of_decide_eq_false h2
    refine J.exit _ rfl ?_
    refine J.seq ?_
    refine J.region ?_
    refine O.p (Pu.move rfl) rfl ?_
    refine O.p (Pu.assign rfl) rfl ?_
    refine O.nil ?_
    exact J.ret (Fin.ret (rs := [.tmp 2]) rfl [_] ⟨rfl, trivial⟩ [0] (by decide) [row V 61 8 (out.map Ft.cells)] rfl (congrArg (fun (o : List Ft) => ([row V 61 8 (o.map Ft.cells)] : List Sp)) (show out = Ld.opened l from (by have hk2 : k = l.length := (by omega); rw [Ld.opened, hst, hk2, List.take_length]))))

set_option maxRecDepth 100000 in
theorem r41_Open (fv : Value) (l : List Ft) (hl : l.length ≤ 80000) : Tri Try.prog 34 #[fv] [rd fv 8 (l.map Ft.cells)] [] (fun v L' => L' = [row v 61 8 ((Ld.opened l).map Ft.cells)]) := by
  refine Tri.enter (args := [fv]) (body := _) 33 Try.func34 rfl Try.ntmps34 rfl ?_
  intro w0
  refine J.seq ?_
  refine J.region ?_
  refine O.p (Pu.assign rfl) rfl ?_
  refine O.nil ?_
  refine J.seq ?_
  refine J.region ?_
  refine O.p (Pu.assign rfl) rfl ?_
  refine O.nil ?_
  refine J.seq ?_
  refine J.seq ?_
  refine J.region ?_
  refine O.p (Pu.assign rfl) rfl ?_
  refine O.nil ?_
  refine J.block ?_
  refine J.nilRow 61 8 ?_
  refine J.loop (X := Nat × Value × List Ft) (fun ξ => ξ.1 ≤ l.length ∧ ξ.2.2 = (l.take ξ.1).filter Ld.isOpen ∧ ξ.2.2.length ≤ ξ.1) (fun ξ => [(0, fv), (2, Value.slice none 0 0), (3, ξ.2.1), (4, .int .i64 (ξ.1 : Int))]) (fun ξ => [row ξ.2.1 61 8 (ξ.2.2.map Ft.cells)]) (fun ξ => l.length - ξ.1) ⟨0, Value.slice none 0 0, []⟩ (show 0 ≤ l.length ∧ ([]) = (l.take 0).filter Ld.isOpen ∧ ([]).length ≤ 0 from ⟨by omega, rfl, by simp⟩) ⟨rfl, rfl, rfl, (congrArg (fun z => some (Value.int .i64 z)) (by first | rfl | omega : (0 : Int) = (0 : Int))), trivial⟩ [0] (by decide) rfl ?_
  rintro ⟨k, V, out⟩ hq1
  obtain ⟨hk, hst, hlen⟩ : k ≤ l.length ∧ out = (l.take k).filter Ld.isOpen ∧ out.length ≤ k := hq1
  show J _ _ [(0, fv), (2, Value.slice none 0 0), (3, V), (4, .int .i64 (k : Int))] [row V 61 8 (out.map Ft.cells)]
  refine J.seq ?_
  refine J.seq ?_
  refine J.region ?_
  refine O.p (Pu.move rfl) rfl ?_
  refine O.p (Pu.move rfl) rfl ?_
  refine O.q (Qt.lenM Try.runUnderlying55 rfl (Src.ro 0 rfl)) rfl ?_
  refine O.p (Pu.lss rfl rfl) rfl ?_
  refine O.nil ?_
  refine J.cond rfl (fun h2 => ?_) (fun h2 => ?_)
  ·
    have p3 := of_decide_eq_true h2
    refine J.skip ?_
    refine J.seq ?_
    refine J.block ?_
    refine J.seq ?_
    refine J.region ?_
    refine O.p (Pu.move rfl) rfl ?_
    refine O.p (Pu.move rfl) rfl ?_
    obtain ⟨e4, he4⟩ : ∃ x_, l[k]? = some x_ := ⟨_, List.getElem?_eq_getElem (by first | omega | (simp only [List.length_append, List.length_cons, List.length_nil, List.length_set]; omega))⟩
    refine O.q (Qt.idxM Try.runUnderlying55 Try.sizeOf61 rfl (Src.ro 0 rfl) rfl (by first | omega | (simp only [List.length_append, List.length_cons, List.length_nil, List.length_set]; omega)) (by first | omega | (simp only [List.length_append, List.length_cons, List.length_nil, List.length_set]; omega))) rfl ?_
    refine O.p (Pu.fieldAddr (off' := voff fv + ((k : Int)).toNat * 8 + 2) Try.runUnderlying61 rfl Try.sizeOf3 rfl rfl rfl) rfl ?_
    refine O.q (Qt.ld rfl (Cel.eltM (Src.ro 0 rfl) he4) (o := (voff fv + k * 8)) (off := 2) (by omega) (Cut.one Try.isAgg3 rfl)) rfl ?_
    refine O.p (Pu.geq rfl rfl) rfl ?_
    refine O.p (Pu.move rfl) rfl ?_
    refine by_bool (decide (1 ≤ e4.state)) (fun h5 => ?_) (fun h5 => ?_)
    ·
      have p6 := of_decide_eq_true h5
      refine O.gq (t := 17) rfl rfl h5 rfl (Pu.qt (Pu.move rfl)) rfl ?_
      refine O.gq (t := 17) rfl rfl h5 rfl (Pu.qt (Pu.move rfl)) rfl ?_
      refine O.gq (t := 17) rfl rfl h5 rfl (Qt.idxM Try.runUnderlying55 Try.sizeOf61 rfl (Src.ro 0 rfl) rfl (by first | omega | (simp only [List.length_append, List.length_cons, List.length_nil, List.length_set]; omega)) (by first | omega | (simp only [List.length_append, List.length_cons, List.length_nil, List.length_set]; omega))) rfl ?_
      refine O.gq (t := 17) rfl rfl h5 rfl (Pu.qt (Pu.fieldAddr (off' := voff fv + ((k : Int)).toNat * 8 + 2) Try.runUnderlying61 rfl Try.sizeOf3 rfl rfl rfl)) rfl ?_
      refine O.gq (t := 17) rfl rfl h5 rfl (Qt.ld rfl (Cel.eltM (Src.ro 0 rfl) he4) (o := (voff fv + k * 8)) (off := 2) (by omega) (Cut.one Try.isAgg3 rfl)) rfl ?_
      refine O.gq (t := 17) rfl rfl h5 rfl (Pu.qt (Pu.leq rfl rfl)) rfl ?_
      refine O.p (Pu.pickT rfl h5 rfl) rfl ?_
      refine O.nil ?_
      refine J.cond rfl (fun h7 => ?_) (fun h7 => ?_)
      ·
        have p8 := of_decide_eq_true h7
        refine J.region ?_
        refine O.p (Pu.move rfl) rfl ?_
        refine O.p (Pu.move rfl) rfl ?_
        refine O.p (Pu.move rfl) rfl ?_
        refine O.q (Qt.idxM Try.runUnderlying55 Try.sizeOf61 rfl (Src.ro 0 rfl) rfl (by first | omega | (simp only [List.length_append, List.length_cons, List.length_nil, List.length_set]; omega)) (by first | omega | (simp only [List.length_append, List.length_cons, List.length_nil, List.length_set]; omega))) rfl ?_
        refine O.q (Qt.ld rfl (Cel.eltM (Src.ro 0 rfl) he4) (o := (voff fv + k * 8)) (off := 0) (by omega) (Cut.agg [.int .i64 e4.s, .int .i64 e4.id, .int .i64 e4.state, .int .i64 e4.level, .int .i64 e4.code, .int .i64 e4.came, .int .i64 e4.began, .int .i64 e4.ended] Try.isAgg61 Try.sizeOf61 rfl rfl)) rfl ?_
        refine O.l (Lo.buildM (s := 8) Ft.cells [e4] [(0, .agg #[.int .i64 e4.s, .int .i64 e4.id, .int .i64 e4.state, .int .i64 e4.level, .int .i64 e4.code, .int .i64 e4.came, .int .i64 e4.began, .int .i64 e4.ended])] (by exact Try.runUnderlying55) (by exact Try.sizeOf61) (by exact Try.zeroValue61) rfl rfl rfl (by kernel_rfl) rfl rfl) rfl ?_
        rintro V9 _ rfl
        refine O.l (Lo.appendM (s := 8) 1 (by exact Try.underlying55) (by exact (info61).1) (by exact (info61).2.1) (by exact (info61).2.2.1) (by exact (info61).2.2.2) rfl rfl rfl rfl rfl (Src.row 0 rfl) Ft.one (by first | omega | (simp only [List.length_append, List.length_cons, List.length_nil, List.length_set]; omega)) (by first | omega | (simp only [List.length_append, List.length_cons, List.length_nil, List.length_set]; omega))) rfl ?_
        rintro V10 _ rfl
        refine O.p (Pu.assign rfl) rfl ?_
        refine O.nil ?_
        refine J.blk ?_
        refine J.region ?_
        refine O.p (Pu.move rfl) rfl ?_
        refine O.p (Pu.add' rfl rfl (by first | omega | (simp only [List.length_append, List.length_cons, List.length_nil, List.length_set]; omega))) rfl ?_
        refine O.p (Pu.assign rfl) rfl ?_
        refine O.nil ?_
        exact J.lp ⟨k + 1, V10, out ++ ([e4])⟩ (show (k + 1) ≤ l.length ∧ (out ++ ([e4])) = (l.take (k + 1)).filter Ld.isOpen ∧ (out ++ ([e4])).length ≤ (k + 1) from ⟨by omega, Ld.open_next (by assumption) hst (by first | (simp [*]; done) | (simp [Ld.isOpen, *]; done)), by first | omega | (simp only [List.length_append, List.length_singleton]; omega)⟩) (show l.length - (k + 1) < l.length - k from (by first | omega | (simp only [List.length_append, List.length_cons, List.length_nil, List.length_set]; omega))) ⟨rfl, rfl, rfl, (congrArg (fun z => some (Value.int .i64 z)) (by first | rfl | omega : ((k : Int) + 1 : Int) = ((k + 1) : Int))), trivial⟩ [1] (by decide) rfl
      ·
        have p11 := of_decide_eq_false h7
        refine J.skip ?_
        refine J.blk ?_
        refine J.region ?_
        refine O.p (Pu.move rfl) rfl ?_
        refine O.p (Pu.add' rfl rfl (by first | omega | (simp only [List.length_append, List.length_cons, List.length_nil, List.length_set]; omega))) rfl ?_
        refine O.p (Pu.assign rfl) rfl ?_
        refine O.nil ?_
        exact J.lp ⟨k + 1, V, out⟩ (show (k + 1) ≤ l.length ∧ out = (l.take (k + 1)).filter Ld.isOpen ∧ out.length ≤ (k + 1) from ⟨by omega, Ld.open_next (by assumption) hst (by first | (simp [*]; done) | (simp [Ld.isOpen, *]; done)), by first | omega | (simp only [List.length_append, List.length_singleton]; omega)⟩) (show l.length - (k + 1) < l.length - k from (by first | omega | (simp only [List.length_append, List.length_cons, List.length_nil, List.length_set]; omega))) ⟨rfl, rfl, rfl, (congrArg (fun z => some (Value.int .i64 z)) (by first | rfl | omega : ((k : Int) + 1 : Int) = ((k + 1) : Int))), trivial⟩ [0] (by decide) rfl
    ·
      have p12 := of_decide_eq_false h5
      refine O.gskip (t := 17) rfl rfl (no_bool (by rw [h5]; decide)) rfl rfl ?_
      refine O.gskip (t := 17) rfl rfl (no_bool (by rw [h5]; decide)) rfl rfl ?_
      refine O.gskip (t := 17) rfl rfl (no_bool (by rw [h5]; decide)) rfl rfl ?_
      refine O.gskip (t := 17) rfl rfl (no_bool (by rw [h5]; decide)) rfl rfl ?_
      refine O.gskip (t := 17) rfl rfl (no_bool (by rw [h5]; decide)) rfl rfl ?_
      refine O.gskip (t := 17) rfl rfl (no_bool (by rw [h5]; decide)) rfl rfl ?_
      refine O.p (Pu.pickF rfl h5 rfl) rfl ?_
      refine O.nil ?_
      refine J.condF rfl rfl ?_
      refine J.skip ?_
      refine J.blk ?_
      refine J.region ?_
      refine O.p (Pu.move rfl) rfl ?_
      refine O.p (Pu.add' rfl rfl (by first | omega | (simp only [List.length_append, List.length_cons, List.length_nil, List.length_set]; omega))) rfl ?_
      refine O.p (Pu.assign rfl) rfl ?_
      refine O.nil ?_
      exact J.lp ⟨k + 1, V, out⟩ (show (k + 1) ≤ l.length ∧ out = (l.take (k + 1)).filter Ld.isOpen ∧ out.length ≤ (k + 1) from ⟨by omega, Ld.open_next (by assumption) hst (by first | (simp [*]; done) | (simp [Ld.isOpen, *]; done)), by first | omega | (simp only [List.length_append, List.length_singleton]; omega)⟩) (show l.length - (k + 1) < l.length - k from (by first | omega | (simp only [List.length_append, List.length_cons, List.length_nil, List.length_set]; omega))) ⟨rfl, rfl, rfl, (congrArg (fun z => some (Value.int .i64 z)) (by first | rfl | omega : ((k : Int) + 1 : Int) = ((k + 1) : Int))), trivial⟩ [0] (by decide) rfl
  ·
    have p13 := of_decide_eq_false h2
    refine J.exit _ rfl ?_
    refine J.seq ?_
    refine J.region ?_
    refine O.p (Pu.move rfl) rfl ?_
    refine O.p (Pu.assign rfl) rfl ?_
    refine O.nil ?_
    exact J.ret (Fin.ret (rs := [.tmp 2]) rfl [_] ⟨rfl, trivial⟩ [0] (by decide) [row V 61 8 (out.map Ft.cells)] rfl (congrArg (fun (o : List Ft) => ([row V 61 8 (o.map Ft.cells)] : List Sp)) (show out = Ld.opened l from (by have hk2 : k = l.length := (by omega); rw [Ld.opened, hst, hk2, List.take_length]))))

end Go.Proofs.Ytghhjhjpccipaaa
