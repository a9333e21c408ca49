/-
  Walks, printed by a program of mine (lk.py): each function meets its contract.
-/
import Derived.KernelRfl
import Derived.Test.YtnfkoohgdcocdaaDoorTX1
import Derived.Test.YtnfkoohgdcocdaaDoorTX3
namespace Go.Proofs.YtnfkoohgdcocdaaDoor
open Go Go.LK
set_option linter.unusedSimpArgs false

set_option maxRecDepth 100000 in
theorem trace_about1 (e : Ev) (g : Nat) (n : Int) : Tri Tryd.prog 91 #[.agg #[.int .i64 e.kind, .int .i64 e.tick, .int .i64 e.s, .int .i64 e.id, .int .i64 e.code, .int .i64 e.a, .int .i64 e.b], .pointer (some ⟨g, 0, none⟩)] [var g [.int .i64 n] 3] [] (fun v L' => v = .bool (Tc.about n e) ∧ L' = []) := by
  refine Tri.enter (args := [.agg #[.int .i64 e.kind, .int .i64 e.tick, .int .i64 e.s, .int .i64 e.id, .int .i64 e.code, .int .i64 e.a, .int .i64 e.b], .pointer (some ⟨g, 0, none⟩)]) (body := _) 30 Tryd.func91 rfl Tryd.ntmps91 rfl ?_
  intro w0
  refine J.seq ?_
  refine J.region ?_
  refine O.l (Lo.box [.int .i64 e.kind, .int .i64 e.tick, .int .i64 e.s, .int .i64 e.id, .int .i64 e.code, .int .i64 e.a, .int .i64 e.b] rfl rfl) rfl ?_
  rintro _ _ ⟨g1, rfl, rfl⟩
  refine O.p (Pu.assign rfl) rfl ?_
  refine O.nil ?_
  refine J.seq ?_
  refine J.region ?_
  refine O.p (Pu.fieldAddr (off' := 0) Tryd.runUnderlying23 rfl Tryd.sizeOf3 rfl rfl rfl) rfl ?_
  refine O.q (Qt.ld rfl (Cel.var 0 rfl) (o := 0) (off := 0) rfl (Cut.one Tryd.isAgg3 rfl)) rfl ?_
  refine O.p (Pu.geq rfl rfl) rfl ?_
  refine O.p (Pu.move rfl) rfl ?_
  refine by_bool (decide (1 ≤ e.kind)) (fun h2 => ?_) (fun h2 => ?_)
  ·
    have p3 := of_decide_eq_true h2
    refine O.gq (t := 8) rfl rfl h2 rfl (Pu.qt (Pu.fieldAddr (off' := 0) Tryd.runUnderlying23 rfl Tryd.sizeOf3 rfl rfl rfl)) rfl ?_
    refine O.gq (t := 8) rfl rfl h2 rfl (Qt.ld rfl (Cel.var 0 rfl) (o := 0) (off := 0) rfl (Cut.one Tryd.isAgg3 rfl)) rfl ?_
    refine O.gq (t := 8) rfl rfl h2 rfl (Pu.qt (Pu.leq rfl rfl)) rfl ?_
    refine O.p (Pu.pickT rfl h2 rfl) rfl ?_
    refine O.p (Pu.move rfl) rfl ?_
    refine by_bool (decide (e.kind ≤ 6)) (fun h4 => ?_) (fun h4 => ?_)
    ·
      have p5 := of_decide_eq_true h4
      refine O.gskip (t := 13) rfl rfl (no_bool (by rw [h4]; decide)) rfl rfl ?_
      refine O.gskip (t := 13) rfl rfl (no_bool (by rw [h4]; decide)) rfl rfl ?_
      refine O.gskip (t := 13) rfl rfl (no_bool (by rw [h4]; decide)) rfl rfl ?_
      refine O.gskip (t := 13) rfl rfl (no_bool (by rw [h4]; decide)) rfl rfl ?_
      refine O.gskip (t := 17) rfl rfl (no_undef _) rfl rfl ?_
      refine O.gskip (t := 17) rfl rfl (no_undef _) rfl rfl ?_
      refine O.gskip (t := 17) rfl rfl (no_undef _) rfl rfl ?_
      refine O.gskip (t := 13) rfl rfl (no_bool (by rw [h4]; decide)) rfl rfl ?_
      refine O.p (Pu.pickT rfl h4 rfl) rfl ?_
      refine O.p (Pu.assign rfl) rfl ?_
      refine O.nil ?_
      refine J.seq ?_
      refine J.region ?_
      refine O.p (Pu.move rfl) rfl ?_
      refine O.p (Pu.move rfl) rfl ?_
      refine O.gq (t := 24) rfl rfl rfl rfl (Pu.qt (Pu.fieldAddr (off' := 3) Tryd.runUnderlying23 rfl Tryd.sizeOf3 rfl rfl rfl)) rfl ?_
      refine O.gq (t := 24) rfl rfl rfl rfl (Qt.ld rfl (Cel.var 0 rfl) (o := 0) (off := 3) rfl (Cut.one Tryd.isAgg3 rfl)) rfl ?_
      refine O.gq (t := 24) rfl rfl rfl rfl (Qt.ld rfl (Cel.roVar 0 rfl) (o := 0) (off := 0) rfl (Cut.one Tryd.isAgg3 rfl)) rfl ?_
      refine O.gq (t := 24) rfl rfl rfl rfl (Pu.qt (Pu.eql rfl rfl)) rfl ?_
      refine O.p (Pu.pickT rfl rfl rfl) rfl ?_
      refine O.p (Pu.assign rfl) rfl ?_
      refine O.nil ?_
      exact J.ret (Fin.ret (rs := [.tmp 3]) rfl [_] ⟨rfl, trivial⟩ [] (by decide) [] rfl ⟨(by simp only [vOf, Tc.about, *, decide_true, decide_false, Bool.and_true, Bool.true_and, Bool.and_false, Bool.false_and, Bool.or_true, Bool.true_or, Bool.or_false, Bool.false_or]), rfl⟩)
    ·
      have p6 := of_decide_eq_false h4
      refine O.gq (t := 13) rfl rfl h4 rfl (Pu.qt (Pu.fieldAddr (off' := 0) Tryd.runUnderlying23 rfl Tryd.sizeOf3 rfl rfl rfl)) rfl ?_
      refine O.gq (t := 13) rfl rfl h4 rfl (Qt.ld rfl (Cel.var 0 rfl) (o := 0) (off := 0) rfl (Cut.one Tryd.isAgg3 rfl)) rfl ?_
      refine O.gq (t := 13) rfl rfl h4 rfl (Pu.qt (Pu.geq rfl rfl)) rfl ?_
      refine O.gq (t := 13) rfl rfl h4 rfl (Pu.qt (Pu.move rfl)) rfl ?_
      refine by_bool (decide (12 ≤ e.kind)) (fun h7 => ?_) (fun h7 => ?_)
      ·
        have p8 := of_decide_eq_true h7
        refine O.gq (t := 17) rfl rfl h7 rfl (Pu.qt (Pu.fieldAddr (off' := 0) Tryd.runUnderlying23 rfl Tryd.sizeOf3 rfl rfl rfl)) rfl ?_
        refine O.gq (t := 17) rfl rfl h7 rfl (Qt.ld rfl (Cel.var 0 rfl) (o := 0) (off := 0) rfl (Cut.one Tryd.isAgg3 rfl)) rfl ?_
        refine O.gq (t := 17) rfl rfl h7 rfl (Pu.qt (Pu.leq rfl rfl)) rfl ?_
        refine O.gq (t := 13) rfl rfl h4 rfl (Pu.qt (Pu.pickT rfl h7 rfl)) rfl ?_
        refine O.p (Pu.pickF rfl h4 rfl) rfl ?_
        refine O.p (Pu.assign rfl) rfl ?_
        refine O.nil ?_
        refine J.seq ?_
        refine J.region ?_
        refine O.p (Pu.move rfl) rfl ?_
        refine O.p (Pu.move rfl) rfl ?_
        refine by_bool (decide (e.kind ≤ 14)) (fun h9 => ?_) (fun h9 => ?_)
        ·
          have p10 := of_decide_eq_true h9
          refine O.gq (t := 24) rfl rfl h9 rfl (Pu.qt (Pu.fieldAddr (off' := 3) Tryd.runUnderlying23 rfl Tryd.sizeOf3 rfl rfl rfl)) rfl ?_
          refine O.gq (t := 24) rfl rfl h9 rfl (Qt.ld rfl (Cel.var 0 rfl) (o := 0) (off := 3) rfl (Cut.one Tryd.isAgg3 rfl)) rfl ?_
          refine O.gq (t := 24) rfl rfl h9 rfl (Qt.ld rfl (Cel.roVar 0 rfl) (o := 0) (off := 0) rfl (Cut.one Tryd.isAgg3 rfl)) rfl ?_
          refine O.gq (t := 24) rfl rfl h9 rfl (Pu.qt (Pu.eql rfl rfl)) rfl ?_
          refine O.p (Pu.pickT rfl h9 rfl) rfl ?_
          refine O.p (Pu.assign rfl) rfl ?_
          refine O.nil ?_
          exact J.ret (Fin.ret (rs := [.tmp 3]) rfl [_] ⟨rfl, trivial⟩ [] (by decide) [] rfl ⟨(by simp only [vOf, Tc.about, *, decide_true, decide_false, Bool.and_true, Bool.true_and, Bool.and_false, Bool.false_and, Bool.or_true, Bool.true_or, Bool.or_false, Bool.false_or]), rfl⟩)
        ·
          have p11 := of_decide_eq_false h9
          refine O.gskip (t := 24) rfl rfl (no_bool (by rw [h9]; decide)) rfl rfl ?_
          refine O.gskip (t := 24) rfl rfl (no_bool (by rw [h9]; decide)) rfl rfl ?_
          refine O.gskip (t := 24) rfl rfl (no_bool (by rw [h9]; decide)) rfl rfl ?_
          refine O.gskip (t := 24) rfl rfl (no_bool (by rw [h9]; decide)) rfl rfl ?_
          refine O.p (Pu.pickF rfl h9 rfl) rfl ?_
          refine O.p (Pu.assign rfl) rfl ?_
          refine O.nil ?_
          exact J.ret (Fin.ret (rs := [.tmp 3]) rfl [_] ⟨rfl, trivial⟩ [] (by decide) [] rfl ⟨(by simp only [vOf, Tc.about, *, decide_true, decide_false, Bool.and_true, Bool.true_and, Bool.and_false, Bool.false_and, Bool.or_true, Bool.true_or, Bool.or_false, Bool.false_or]), rfl⟩)
      ·
        have p12 := of_decide_eq_false h7
        refine O.gskip (t := 17) rfl rfl (no_bool (by rw [h7]; decide)) rfl rfl ?_
        refine O.gskip (t := 17) rfl rfl (no_bool (by rw [h7]; decide)) rfl rfl ?_
        refine O.gskip (t := 17) rfl rfl (no_bool (by rw [h7]; decide)) rfl rfl ?_
        refine O.gq (t := 13) rfl rfl h4 rfl (Pu.qt (Pu.pickF rfl h7 rfl)) rfl ?_
        refine O.p (Pu.pickF rfl h4 rfl) rfl ?_
        refine O.p (Pu.assign rfl) rfl ?_
        refine O.nil ?_
        refine J.seq ?_
        refine J.region ?_
        refine O.p (Pu.move rfl) rfl ?_
        refine O.p (Pu.move rfl) rfl ?_
        refine O.gskip (t := 24) rfl rfl (no_bool (by decide)) rfl rfl ?_
        refine O.gskip (t := 24) rfl rfl (no_bool (by decide)) rfl rfl ?_
        refine O.gskip (t := 24) rfl rfl (no_bool (by decide)) rfl rfl ?_
        refine O.gskip (t := 24) rfl rfl (no_bool (by decide)) rfl rfl ?_
        refine O.p (Pu.pickF rfl rfl rfl) rfl ?_
        refine O.p (Pu.assign rfl) rfl ?_
        refine O.nil ?_
        exact J.ret (Fin.ret (rs := [.tmp 3]) rfl [_] ⟨rfl, trivial⟩ [] (by decide) [] rfl ⟨(by simp only [vOf, Tc.about, *, decide_true, decide_false, Bool.and_true, Bool.true_and, Bool.and_false, Bool.false_and, Bool.or_true, Bool.true_or, Bool.or_false, Bool.false_or]), rfl⟩)
  ·
    have p13 := of_decide_eq_false h2
    refine O.gskip (t := 8) rfl rfl (no_bool (by rw [h2]; decide)) rfl rfl ?_
    refine O.gskip (t := 8) rfl rfl (no_bool (by rw [h2]; decide)) rfl rfl ?_
    refine O.gskip (t := 8) rfl rfl (no_bool (by rw [h2]; decide)) rfl rfl ?_
    refine O.p (Pu.pickF rfl h2 rfl) rfl ?_
    refine O.p (Pu.move rfl) rfl ?_
    refine O.gq (t := 13) rfl rfl rfl rfl (Pu.qt (Pu.fieldAddr (off' := 0) Tryd.runUnderlying23 rfl Tryd.sizeOf3 rfl rfl rfl)) rfl ?_
    refine O.gq (t := 13) rfl rfl rfl rfl (Qt.ld rfl (Cel.var 0 rfl) (o := 0) (off := 0) rfl (Cut.one Tryd.isAgg3 rfl)) rfl ?_
    refine O.gq (t := 13) rfl rfl rfl rfl (Pu.qt (Pu.geq rfl rfl)) rfl ?_
    refine O.gq (t := 13) rfl rfl rfl rfl (Pu.qt (Pu.move rfl)) rfl ?_
    refine by_bool (decide (12 ≤ e.kind)) (fun h14 => ?_) (fun h14 => ?_)
    ·
      have p15 := of_decide_eq_true h14
      refine O.gq (t := 17) rfl rfl h14 rfl (Pu.qt (Pu.fieldAddr (off' := 0) Tryd.runUnderlying23 rfl Tryd.sizeOf3 rfl rfl rfl)) rfl ?_
      refine O.gq (t := 17) rfl rfl h14 rfl (Qt.ld rfl (Cel.var 0 rfl) (o := 0) (off := 0) rfl (Cut.one Tryd.isAgg3 rfl)) rfl ?_
      refine O.gq (t := 17) rfl rfl h14 rfl (Pu.qt (Pu.leq rfl rfl)) rfl ?_
      refine O.gq (t := 13) rfl rfl rfl rfl (Pu.qt (Pu.pickT rfl h14 rfl)) rfl ?_
      refine O.p (Pu.pickF rfl rfl rfl) rfl ?_
      refine O.p (Pu.assign rfl) rfl ?_
      refine O.nil ?_
      refine J.seq ?_
      refine J.region ?_
      refine O.p (Pu.move rfl) rfl ?_
      refine O.p (Pu.move rfl) rfl ?_
      refine by_bool (decide (e.kind ≤ 14)) (fun h16 => ?_) (fun h16 => ?_)
      ·
        have p17 := of_decide_eq_true h16
        refine O.gq (t := 24) rfl rfl h16 rfl (Pu.qt (Pu.fieldAddr (off' := 3) Tryd.runUnderlying23 rfl Tryd.sizeOf3 rfl rfl rfl)) rfl ?_
        refine O.gq (t := 24) rfl rfl h16 rfl (Qt.ld rfl (Cel.var 0 rfl) (o := 0) (off := 3) rfl (Cut.one Tryd.isAgg3 rfl)) rfl ?_
        refine O.gq (t := 24) rfl rfl h16 rfl (Qt.ld rfl (Cel.roVar 0 rfl) (o := 0) (off := 0) rfl (Cut.one Tryd.isAgg3 rfl)) rfl ?_
        refine O.gq (t := 24) rfl rfl h16 rfl (Pu.qt (Pu.eql rfl rfl)) rfl ?_
        refine O.p (Pu.pickT rfl h16 rfl) rfl ?_
        refine O.p (Pu.assign rfl) rfl ?_
        refine O.nil ?_
        exact J.ret (Fin.ret (rs := [.tmp 3]) rfl [_] ⟨rfl, trivial⟩ [] (by decide) [] rfl ⟨(by simp only [vOf, Tc.about, *, decide_true, decide_false, Bool.and_true, Bool.true_and, Bool.and_false, Bool.false_and, Bool.or_true, Bool.true_or, Bool.or_false, Bool.false_or]), rfl⟩)
      ·
        have p18 := of_decide_eq_false h16
        refine O.gskip (t := 24) rfl rfl (no_bool (by rw [h16]; decide)) rfl rfl ?_
        refine O.gskip (t := 24) rfl rfl (no_bool (by rw [h16]; decide)) rfl rfl ?_
        refine O.gskip (t := 24) rfl rfl (no_bool (by rw [h16]; decide)) rfl rfl ?_
        refine O.gskip (t := 24) rfl rfl (no_bool (by rw [h16]; decide)) rfl rfl ?_
        refine O.p (Pu.pickF rfl h16 rfl) rfl ?_
        refine O.p (Pu.assign rfl) rfl ?_
        refine O.nil ?_
        exact J.ret (Fin.ret (rs := [.tmp 3]) rfl [_] ⟨rfl, trivial⟩ [] (by decide) [] rfl ⟨(by simp only [vOf, Tc.about, *, decide_true, decide_false, Bool.and_true, Bool.true_and, Bool.and_false, Bool.false_and, Bool.or_true, Bool.true_or, Bool.or_false, Bool.false_or]), rfl⟩)
    ·
      have p19 := of_decide_eq_false h14
      refine O.gskip (t := 17) rfl rfl (no_bool (by rw [h14]; decide)) rfl rfl ?_
      refine O.gskip (t := 17) rfl rfl (no_bool (by rw [h14]; decide)) rfl rfl ?_
      refine O.gskip (t := 17) rfl rfl (no_bool (by rw [h14]; decide)) rfl rfl ?_
      refine O.gq (t := 13) rfl rfl rfl rfl (Pu.qt (Pu.pickF rfl h14 rfl)) rfl ?_
      refine O.p (Pu.pickF rfl rfl rfl) rfl ?_
      refine O.p (Pu.assign rfl) rfl ?_
      refine O.nil ?_
      refine J.seq ?_
      refine J.region ?_
      refine O.p (Pu.move rfl) rfl ?_
      refine O.p (Pu.move rfl) rfl ?_
      refine O.gskip (t := 24) rfl rfl (no_bool (by decide)) rfl rfl ?_
      refine O.gskip (t := 24) rfl rfl (no_bool (by decide)) rfl rfl ?_
      refine O.gskip (t := 24) rfl rfl (no_bool (by decide)) rfl rfl ?_
      refine O.gskip (t := 24) rfl rfl (no_bool (by decide)) rfl rfl ?_
      refine O.p (Pu.pickF rfl rfl rfl) rfl ?_
      refine O.p (Pu.assign rfl) rfl ?_
      refine O.nil ?_
      exact J.ret (Fin.ret (rs := [.tmp 3]) rfl [_] ⟨rfl, trivial⟩ [] (by decide) [] rfl ⟨(by simp only [vOf, Tc.about, *, decide_true, decide_false, Bool.and_true, Bool.true_and, Bool.and_false, Bool.false_and, Bool.or_true, Bool.true_or, Bool.or_false, Bool.false_or]), rfl⟩)

set_option maxRecDepth 100000 in
theorem trace_of1 (e : Ev) (g : Nat) (s : Int) : Tri Tryd.prog 89 #[.agg #[.int .i64 e.kind, .int .i64 e.tick, .int .i64 e.s, .int .i64 e.id, .int .i64 e.code, .int .i64 e.a, .int .i64 e.b], .pointer (some ⟨g, 0, none⟩)] [var g [.int .i64 s] 3] [] (fun v L' => v = .bool (decide (e.s = s)) ∧ L' = []) := by
  refine Tri.enter (args := [.agg #[.int .i64 e.kind, .int .i64 e.tick, .int .i64 e.s, .int .i64 e.id, .int .i64 e.code, .int .i64 e.a, .int .i64 e.b], .pointer (some ⟨g, 0, none⟩)]) (body := _) 8 Tryd.func89 rfl Tryd.ntmps89 rfl ?_
  intro w0
  refine J.seq ?_
  refine J.region ?_
  refine O.l (Lo.box [.int .i64 e.kind, .int .i64 e.tick, .int .i64 e.s, .int .i64 e.id, .int .i64 e.code, .int .i64 e.a, .int .i64 e.b] rfl rfl) rfl ?_
  rintro _ _ ⟨g1, rfl, rfl⟩
  refine O.p (Pu.assign rfl) rfl ?_
  refine O.nil ?_
  refine J.seq ?_
  refine J.region ?_
  refine O.p (Pu.fieldAddr (off' := 2) Tryd.runUnderlying23 rfl Tryd.sizeOf3 rfl rfl rfl) rfl ?_
  refine O.q (Qt.ld rfl (Cel.var 0 rfl) (o := 0) (off := 2) rfl (Cut.one Tryd.isAgg3 rfl)) rfl ?_
  refine O.q (Qt.ld rfl (Cel.roVar 0 rfl) (o := 0) (off := 0) rfl (Cut.one Tryd.isAgg3 rfl)) rfl ?_
  refine O.p (Pu.eql rfl rfl) rfl ?_
  refine O.p (Pu.assign rfl) rfl ?_
  refine O.nil ?_
  exact J.ret (Fin.ret (rs := [.tmp 3]) rfl [_] ⟨rfl, trivial⟩ [] (by decide) [] rfl ⟨rfl, rfl⟩)

set_option maxRecDepth 100000 in
theorem trace_some (fid : Nat) (caps : List Value) (p : Ev → Bool) (RoF : List Sp) (lv : Value) (l : List Ev) (hc : ∀ args w, (callFunc fid args).run Tryd.prog w = .ok (.enter fid args) w) (hF : ∀ e : Ev, Tri Tryd.prog fid (([.agg (Ev.cells e).toArray] : List Value) ++ caps).toArray RoF [] (fun v L' => v = .bool (p e) ∧ L' = [])) (hl : l.length ≤ 100000) : Tri Tryd.prog 88 #[lv, (.func (.func fid) #[] caps.toArray)] (rd lv 7 (l.map Ev.cells) :: RoF) [] (fun v L' => L' = [row v 23 7 ((l.filter p).map Ev.cells)]) := by
  refine Tri.enter (args := [lv, (.func (.func fid) #[] caps.toArray)]) (body := _) 23 Tryd.func88 rfl Tryd.ntmps88 rfl ?_
  intro w0
  refine J.seq ?_
  refine J.region ?_
  refine O.p (Pu.assign rfl) rfl ?_
  refine O.nil ?_
  refine J.seq ?_
  refine J.region ?_
  refine O.p (Pu.assign rfl) rfl ?_
  refine O.nil ?_
  refine J.seq ?_
  refine J.seq ?_
  refine J.region ?_
  refine O.p (Pu.move rfl) rfl ?_
  refine O.q (Qt.lenM Tryd.runUnderlying35 rfl (Src.ro 0 rfl)) rfl ?_
  refine O.p (Pu.move rfl) rfl ?_
  refine O.nil ?_
  refine J.block ?_
  refine J.nilRow 23 7 ?_
  refine J.loop (X := Nat × Value × List Ev) (fun ξ => ξ.1 ≤ l.length ∧ ξ.2.2 = (l.take ξ.1).filter p ∧ ξ.2.2.length ≤ ξ.1) (fun ξ => [(1, (.func (.func fid) #[] caps.toArray)), (4, Value.slice none 0 0), (5, ξ.2.1), (8, lv), (9, .int .i64 (l.length : Int)), (10, .int .i64 (ξ.1 : Int))]) (fun ξ => [row ξ.2.1 23 7 (ξ.2.2.map Ev.cells)]) (fun ξ => l.length - ξ.1) ⟨0, Value.slice none 0 0, []⟩ (show 0 ≤ l.length ∧ ([]) = (l.take 0).filter p ∧ ([]).length ≤ 0 from ⟨by omega, by simp, by simp⟩) ⟨rfl, rfl, rfl, rfl, rfl, (congrArg (fun z => some (Value.int .i64 z)) (by first | rfl | omega : (0 : Int) = (0 : Int))), trivial⟩ [0] (by decide) rfl ?_
  rintro ⟨k, V, out⟩ hq1
  obtain ⟨hk, hst, hlen⟩ : k ≤ l.length ∧ out = (l.take k).filter p ∧ out.length ≤ k := hq1
  show J _ _ [(1, (.func (.func fid) #[] caps.toArray)), (4, Value.slice none 0 0), (5, V), (8, lv), (9, .int .i64 (l.length : Int)), (10, .int .i64 (k : Int))] [row V 23 7 (out.map Ev.cells)]
  refine J.seq ?_
  refine J.region ?_
  refine O.p (Pu.lss rfl rfl) rfl ?_
  refine O.nil ?_
  refine J.seq ?_
  refine J.cond rfl (fun h2 => ?_) (fun h2 => ?_)
  ·
    have p3 := of_decide_eq_true h2
    refine J.skip ?_
    refine J.seq ?_
    refine J.block ?_
    refine J.seq ?_
    refine J.region ?_
    obtain ⟨e4, he4⟩ : ∃ x_, l[k]? = some x_ := ⟨_, List.getElem?_eq_getElem (by first | omega | (simp only [List.length_append, List.length_cons, List.length_nil, List.length_set]; omega))⟩
    refine O.q (Qt.idxM Tryd.runUnderlying35 Tryd.sizeOf23 rfl (Src.ro 0 rfl) rfl (by first | omega | (simp only [List.length_append, List.length_cons, List.length_nil, List.length_set]; omega)) (by first | omega | (simp only [List.length_append, List.length_cons, List.length_nil, List.length_set]; omega))) rfl ?_
    refine O.q (Qt.ld rfl (Cel.eltM (Src.ro 0 rfl) he4) (o := (voff lv + k * 7)) (off := 0) (by omega) (Cut.agg [.int .i64 e4.kind, .int .i64 e4.tick, .int .i64 e4.s, .int .i64 e4.id, .int .i64 e4.code, .int .i64 e4.a, .int .i64 e4.b] Tryd.isAgg23 Tryd.sizeOf23 rfl rfl)) rfl ?_
    refine O.l (Lo.alloc [.int .i64 0, .int .i64 0, .int .i64 0, .int .i64 0, .int .i64 0, .int .i64 0, .int .i64 0] (by exact Tryd.zeroValue23) rfl) rfl ?_
    rintro _ _ ⟨g5, rfl, rfl⟩
    refine O.l0 (Lo.store 0 (vs := [.int .i64 e4.kind, .int .i64 e4.tick, .int .i64 e4.s, .int .i64 e4.id, .int .i64 e4.code, .int .i64 e4.a, .int .i64 e4.b]) [.int .i64 e4.kind, .int .i64 e4.tick, .int .i64 e4.s, .int .i64 e4.id, .int .i64 e4.code, .int .i64 e4.a, .int .i64 e4.b] rfl rfl rfl (by exact Tryd.sizeOf23) rfl rfl rfl rfl rfl) ?_
    rintro _ _ rfl
    refine O.nil ?_
    refine J.seq ?_
    refine J.region ?_
    refine O.p (Pu.move rfl) rfl ?_
    refine O.q (Qt.ld rfl (Cel.var 0 rfl) (o := 0) (off := 0) rfl (Cut.agg [.int .i64 e4.kind, .int .i64 e4.tick, .int .i64 e4.s, .int .i64 e4.id, .int .i64 e4.code, .int .i64 e4.a, .int .i64 e4.b] Tryd.isAgg23 Tryd.sizeOf23 rfl rfl)) rfl ?_
    refine O.l (Lo.callV (vs := [.agg #[.int .i64 e4.kind, .int .i64 e4.tick, .int .i64 e4.s, .int .i64 e4.id, .int .i64 e4.code, .int .i64 e4.a, .int .i64 e4.b]]) (caps := caps) hc rfl rfl (hF e4) [] [0, 1] (by decide) rfl _ rfl (RoOk.sub (fun _ hA => List.mem_cons_of_mem _ hA) [] rfl)) rfl ?_
    rintro _ _ ⟨_, ⟨rfl, rfl⟩, rfl⟩
    refine O.nil ?_
    refine J.cond rfl (fun h7 => ?_) (fun h7 => ?_)
    ·
      refine J.region ?_
      refine O.p (Pu.move rfl) rfl ?_
      refine O.q (Qt.ld rfl (Cel.var 0 rfl) (o := 0) (off := 0) rfl (Cut.agg [.int .i64 e4.kind, .int .i64 e4.tick, .int .i64 e4.s, .int .i64 e4.id, .int .i64 e4.code, .int .i64 e4.a, .int .i64 e4.b] Tryd.isAgg23 Tryd.sizeOf23 rfl rfl)) rfl ?_
      refine O.l (Lo.buildM (s := 7) Ev.cells [e4] [(0, .agg #[.int .i64 e4.kind, .int .i64 e4.tick, .int .i64 e4.s, .int .i64 e4.id, .int .i64 e4.code, .int .i64 e4.a, .int .i64 e4.b])] (by exact Tryd.runUnderlying35) (by exact Tryd.sizeOf23) (by exact Tryd.zeroValue23) rfl rfl rfl (by kernel_rfl) rfl rfl) rfl ?_
      rintro V8 _ rfl
      refine O.l (Lo.appendM (s := 7) 2 (by exact Tryd.underlying35) (by exact (info23).1) (by exact (info23).2.1) (by exact (info23).2.2.1) (by exact (info23).2.2.2) rfl rfl rfl rfl rfl (Src.row 0 rfl) Ev.one (by first | omega | (simp only [List.length_append, List.length_cons, List.length_nil, List.length_set]; omega)) (by first | omega | (simp only [List.length_append, List.length_cons, List.length_nil, List.length_set]; omega))) rfl ?_
      rintro V9 _ rfl
      refine O.p (Pu.assign rfl) rfl ?_
      refine O.nil ?_
      refine J.blk ?_
      refine J.region ?_
      refine O.p (Pu.add' rfl rfl (by first | omega | (simp only [List.length_append, List.length_cons, List.length_nil, List.length_set]; omega))) rfl ?_
      refine O.p (Pu.move rfl) rfl ?_
      refine O.nil ?_
      exact J.lp ⟨k + 1, V9, out ++ ([e4])⟩ (show (k + 1) ≤ l.length ∧ (out ++ ([e4])) = (l.take (k + 1)).filter p ∧ (out ++ ([e4])).length ≤ (k + 1) from ⟨by omega, by rw [List.take_add_one, (by assumption : l[k]? = some _), List.filter_append, ← hst]; simp [*], by first | omega | (simp; omega)⟩) (show l.length - (k + 1) < l.length - k from (by first | omega | (simp only [List.length_append, List.length_cons, List.length_nil, List.length_set]; omega))) ⟨rfl, rfl, rfl, rfl, rfl, (congrArg (fun z => some (Value.int .i64 z)) (by first | rfl | omega : ((k : Int) + 1 : Int) = ((k + 1) : Int))), trivial⟩ [2] (by decide) rfl
    ·
      refine J.skip ?_
      refine J.blk ?_
      refine J.region ?_
      refine O.p (Pu.add' rfl rfl (by first | omega | (simp only [List.length_append, List.length_cons, List.length_nil, List.length_set]; omega))) rfl ?_
      refine O.p (Pu.move rfl) rfl ?_
      refine O.nil ?_
      exact J.lp ⟨k + 1, V, out⟩ (show (k + 1) ≤ l.length ∧ out = (l.take (k + 1)).filter p ∧ out.length ≤ (k + 1) from ⟨by omega, by rw [List.take_add_one, (by assumption : l[k]? = some _), List.filter_append, ← hst]; simp [*], by first | omega | (simp; omega)⟩) (show l.length - (k + 1) < l.length - k from (by first | omega | (simp only [List.length_append, List.length_cons, List.length_nil, List.length_set]; omega))) ⟨rfl, rfl, rfl, rfl, rfl, (congrArg (fun z => some (Value.int .i64 z)) (by first | rfl | omega : ((k : Int) + 1 : Int) = ((k + 1) : Int))), trivial⟩ [1] (by decide) rfl
  ·
    have p10 := of_decide_eq_false h2
    refine J.exit _ rfl ?_
    refine J.seq ?_
    refine J.region ?_
    refine O.p (Pu.move rfl) rfl ?_
    refine O.p (Pu.assign rfl) rfl ?_
    refine O.nil ?_
    exact J.ret (Fin.ret (rs := [.tmp 4]) rfl [_] ⟨rfl, trivial⟩ [0] (by decide) [row V 23 7 (out.map Ev.cells)] rfl (congrArg (fun o => ([row V 23 7 (o.map Ev.cells)] : List Sp)) (show out = l.filter p from (by rw [hst, List.take_of_length_le (by omega)]))))

set_option maxRecDepth 100000 in
theorem trace_of (s : Int) (lv : Value) (l : List Ev) (hl : l.length ≤ 100000) : Tri Tryd.prog 24 #[.int .i64 s, lv] [rd lv 7 (l.map Ev.cells)] [] (fun v L' => L' = [row v 23 7 ((Mono.of s l).map Ev.cells)]) := by
  refine Tri.enter (args := [.int .i64 s, lv]) (body := _) 8 Tryd.func24 rfl Tryd.ntmps24 rfl ?_
  intro w0
  refine J.seq ?_
  refine J.region ?_
  refine O.l (Lo.box [.int .i64 s] rfl rfl) rfl ?_
  rintro _ _ ⟨g1, rfl, rfl⟩
  refine O.p (Pu.assign rfl) rfl ?_
  refine O.nil ?_
  refine J.seq ?_
  refine J.region ?_
  refine O.p (Pu.move rfl) rfl ?_
  refine O.p (Pu.makeFunc [.pointer (some ⟨g1, 0, none⟩)] rfl) rfl ?_
  refine O.l (Lo.call [lv, .func (.func 89) #[] #[.pointer (some ⟨g1, 0, none⟩)]] (by exact Tryd.call88) rfl (trace_some 89 [.pointer (some ⟨g1, 0, none⟩)] (fun e => decide (e.s = s)) [var g1 [.int .i64 s] 3] lv l (by exact (by exact Tryd.call89)) (fun e => trace_of1 e g1 s) (by omega)) [] [0] (by decide) rfl _ rfl (RoOk.ro 0 rfl [] rfl (RoOk.of 0 rfl same_rd [] (by decide) rfl RoOk.nil))) rfl ?_
  rintro v2 _ ⟨_, rfl, rfl⟩
  refine O.p (Pu.assign rfl) rfl ?_
  refine O.nil ?_
  exact J.ret (Fin.ret (rs := [.tmp 4]) rfl [_] ⟨rfl, trivial⟩ [0] (by decide) [row v2 23 7 ((Mono.of s l).map Ev.cells)] rfl rfl)

set_option maxRecDepth 100000 in
theorem trace_about (n : Int) (lv : Value) (l : List Ev) (hl : l.length ≤ 100000) : Tri Tryd.prog 29 #[.int .i64 n, lv] [rd lv 7 (l.map Ev.cells)] [] (fun v L' => L' = [row v 23 7 ((l.filter (Tc.about n)).map Ev.cells)]) := by
  refine Tri.enter (args := [.int .i64 n, lv]) (body := _) 8 Tryd.func29 rfl Tryd.ntmps29 rfl ?_
  intro w0
  refine J.seq ?_
  refine J.region ?_
  refine O.l (Lo.box [.int .i64 n] rfl rfl) rfl ?_
  rintro _ _ ⟨g1, rfl, rfl⟩
  refine O.p (Pu.assign rfl) rfl ?_
  refine O.nil ?_
  refine J.seq ?_
  refine J.region ?_
  refine O.p (Pu.move rfl) rfl ?_
  refine O.p (Pu.makeFunc [.pointer (some ⟨g1, 0, none⟩)] rfl) rfl ?_
  refine O.l (Lo.call [lv, .func (.func 91) #[] #[.pointer (some ⟨g1, 0, none⟩)]] (by exact Tryd.call88) rfl (trace_some 91 [.pointer (some ⟨g1, 0, none⟩)] (Tc.about n) [var g1 [.int .i64 n] 3] lv l (by exact (by exact Tryd.call91)) (fun e => trace_about1 e g1 n) (by omega)) [] [0] (by decide) rfl _ rfl (RoOk.ro 0 rfl [] rfl (RoOk.of 0 rfl same_rd [] (by decide) rfl RoOk.nil))) rfl ?_
  rintro v2 _ ⟨_, rfl, rfl⟩
  refine O.p (Pu.assign rfl) rfl ?_
  refine O.nil ?_
  exact J.ret (Fin.ret (rs := [.tmp 4]) rfl [_] ⟨rfl, trivial⟩ [0] (by decide) [row v2 23 7 ((l.filter (Tc.about n)).map Ev.cells)] rfl rfl)

set_option maxRecDepth 100000 in
theorem r39_Of (n : Int) (lv : Value) (l : List Ev) (hl : l.length ≤ 100000) : Tri Tryd.prog 28 #[.int .i64 n, lv] [rd lv 7 (l.map Ev.cells)] [] (fun v L' => L' = [row v 23 7 ((Mono.of n l).map Ev.cells)]) := by
  refine Tri.enter (args := [.int .i64 n, lv]) (body := _) 28 Tryd.func28 rfl Tryd.ntmps28 rfl ?_
  intro w0
  refine J.seq ?_
  refine J.region ?_
  refine O.p (Pu.assign rfl) rfl ?_
  refine O.nil ?_
  refine J.seq ?_
  refine J.region ?_
  refine O.p (Pu.assign rfl) rfl ?_
  refine O.nil ?_
  refine J.seq ?_
  refine J.seq ?_
  refine J.region ?_
  refine O.p (Pu.assign rfl) rfl ?_
  refine O.nil ?_
  refine J.block ?_
  refine J.nilRow 23 7 ?_
  refine J.loop (X := Nat × Value × List Ev) (fun ξ => ξ.1 ≤ l.length ∧ ξ.2.2 = (l.take ξ.1).filter (fun e => decide (e.s = n)) ∧ ξ.2.2.length ≤ ξ.1) (fun ξ => [(0, .int .i64 n), (1, lv), (4, Value.slice none 0 0), (5, ξ.2.1), (6, .int .i64 (ξ.1 : Int))]) (fun ξ => [row ξ.2.1 23 7 (ξ.2.2.map Ev.cells)]) (fun ξ => l.length - ξ.1) ⟨0, Value.slice none 0 0, []⟩ (show 0 ≤ l.length ∧ ([]) = (l.take 0).filter (fun e => decide (e.s = n)) ∧ ([]).length ≤ 0 from ⟨by omega, rfl, by simp⟩) ⟨rfl, rfl, rfl, rfl, (congrArg (fun z => some (Value.int .i64 z)) (by first | rfl | omega : (0 : Int) = (0 : Int))), trivial⟩ [0] (by decide) rfl ?_
  rintro ⟨k, V, out⟩ hq1
  obtain ⟨hk, hst, hlen⟩ : k ≤ l.length ∧ out = (l.take k).filter (fun e => decide (e.s = n)) ∧ out.length ≤ k := hq1
  show J _ _ [(0, .int .i64 n), (1, lv), (4, Value.slice none 0 0), (5, V), (6, .int .i64 (k : Int))] [row V 23 7 (out.map Ev.cells)]
  refine J.seq ?_
  refine J.seq ?_
  refine J.region ?_
  refine O.p (Pu.move rfl) rfl ?_
  refine O.p (Pu.move rfl) rfl ?_
  refine O.q (Qt.lenM Tryd.runUnderlying35 rfl (Src.ro 0 rfl)) rfl ?_
  refine O.p (Pu.lss rfl rfl) rfl ?_
  refine O.nil ?_
  refine J.cond rfl (fun h2 => ?_) (fun h2 => ?_)
  ·
    have p3 := of_decide_eq_true h2
    refine J.skip ?_
    refine J.seq ?_
    refine J.block ?_
    refine J.seq ?_
    refine J.region ?_
    refine O.p (Pu.move rfl) rfl ?_
    refine O.p (Pu.move rfl) rfl ?_
    obtain ⟨e4, he4⟩ : ∃ x_, l[k]? = some x_ := ⟨_, List.getElem?_eq_getElem (by first | omega | (simp only [List.length_append, List.length_cons, List.length_nil]; omega))⟩
    refine O.q (Qt.idxM Tryd.runUnderlying35 Tryd.sizeOf23 rfl (Src.ro 0 rfl) rfl (by first | omega | (simp only [List.length_append, List.length_cons, List.length_nil]; omega)) (by first | omega | (simp only [List.length_append, List.length_cons, List.length_nil]; omega))) rfl ?_
    refine O.p (Pu.fieldAddr (off' := voff lv + ((k : Int)).toNat * 7 + 2) Tryd.runUnderlying23 rfl Tryd.sizeOf3 rfl rfl rfl) rfl ?_
    refine O.q (Qt.ld rfl (Cel.eltM (Src.ro 0 rfl) he4) (o := (voff lv + k * 7)) (off := 2) (by omega) (Cut.one Tryd.isAgg3 rfl)) rfl ?_
    refine O.p (Pu.move rfl) rfl ?_
    refine O.p (Pu.eql rfl rfl) rfl ?_
    refine O.nil ?_
    refine J.cond rfl (fun h5 => ?_) (fun h5 => ?_)
    ·
      have p6 := of_decide_eq_true h5
      refine J.region ?_
      refine O.p (Pu.move rfl) rfl ?_
      refine O.p (Pu.move rfl) rfl ?_
      refine O.p (Pu.move rfl) rfl ?_
      refine O.q (Qt.idxM Tryd.runUnderlying35 Tryd.sizeOf23 rfl (Src.ro 0 rfl) rfl (by first | omega | (simp only [List.length_append, List.length_cons, List.length_nil]; omega)) (by first | omega | (simp only [List.length_append, List.length_cons, List.length_nil]; omega))) rfl ?_
      refine O.q (Qt.ld rfl (Cel.eltM (Src.ro 0 rfl) he4) (o := (voff lv + k * 7)) (off := 0) (by omega) (Cut.agg [.int .i64 e4.kind, .int .i64 e4.tick, .int .i64 e4.s, .int .i64 e4.id, .int .i64 e4.code, .int .i64 e4.a, .int .i64 e4.b] Tryd.isAgg23 Tryd.sizeOf23 rfl rfl)) rfl ?_
      refine O.l (Lo.buildM (s := 7) Ev.cells [e4] [(0, .agg #[.int .i64 e4.kind, .int .i64 e4.tick, .int .i64 e4.s, .int .i64 e4.id, .int .i64 e4.code, .int .i64 e4.a, .int .i64 e4.b])] (by exact Tryd.runUnderlying35) (by exact Tryd.sizeOf23) (by exact Tryd.zeroValue23) rfl rfl rfl (by kernel_rfl) rfl rfl) rfl ?_
      rintro V7 _ rfl
      refine O.l (Lo.appendM (s := 7) 1 (by exact Tryd.underlying35) (by exact (info23).1) (by exact (info23).2.1) (by exact (info23).2.2.1) (by exact (info23).2.2.2) rfl rfl rfl rfl rfl (Src.row 0 rfl) Ev.one (by first | omega | (simp only [List.length_append, List.length_cons, List.length_nil]; omega)) (by first | omega | (simp only [List.length_append, List.length_cons, List.length_nil]; omega))) rfl ?_
      rintro V8 _ rfl
      refine O.p (Pu.assign rfl) rfl ?_
      refine O.nil ?_
      refine J.blk ?_
      refine J.region ?_
      refine O.p (Pu.move rfl) rfl ?_
      refine O.p (Pu.add' rfl rfl (by first | omega | (simp only [List.length_append, List.length_cons, List.length_nil, List.length_set]; omega))) rfl ?_
      refine O.p (Pu.assign rfl) rfl ?_
      refine O.nil ?_
      exact J.lp ⟨k + 1, V8, out ++ ([e4])⟩ (show (k + 1) ≤ l.length ∧ (out ++ ([e4])) = (l.take (k + 1)).filter (fun e => decide (e.s = n)) ∧ (out ++ ([e4])).length ≤ (k + 1) from ⟨by omega, (by rw [hst]; first | exact (Tc.sel_yes he4 (decide_eq_true (by omega))).symm | exact (Tc.sel_no he4 (decide_eq_false (by omega))).symm), by first | omega | (simp only [List.length_append, List.length_cons, List.length_nil]; omega)⟩) (show l.length - (k + 1) < l.length - k from (by first | omega | (simp only [List.length_append, List.length_cons, List.length_nil]; omega))) ⟨rfl, rfl, rfl, rfl, (congrArg (fun z => some (Value.int .i64 z)) (by first | rfl | omega : ((k : Int) + 1 : Int) = ((k + 1) : Int))), trivial⟩ [1] (by decide) rfl
    ·
      have p9 := of_decide_eq_false h5
      refine J.skip ?_
      refine J.blk ?_
      refine J.region ?_
      refine O.p (Pu.move rfl) rfl ?_
      refine O.p (Pu.add' rfl rfl (by first | omega | (simp only [List.length_append, List.length_cons, List.length_nil, List.length_set]; omega))) rfl ?_
      refine O.p (Pu.assign rfl) rfl ?_
      refine O.nil ?_
      exact J.lp ⟨k + 1, V, out⟩ (show (k + 1) ≤ l.length ∧ out = (l.take (k + 1)).filter (fun e => decide (e.s = n)) ∧ out.length ≤ (k + 1) from ⟨by omega, (by rw [hst]; first | exact (Tc.sel_yes he4 (decide_eq_true (by omega))).symm | exact (Tc.sel_no he4 (decide_eq_false (by omega))).symm), by first | omega | (simp only [List.length_append, List.length_cons, List.length_nil]; omega)⟩) (show l.length - (k + 1) < l.length - k from (by first | omega | (simp only [List.length_append, List.length_cons, List.length_nil]; omega))) ⟨rfl, rfl, rfl, rfl, (congrArg (fun z => some (Value.int .i64 z)) (by first | rfl | omega : ((k : Int) + 1 : Int) = ((k + 1) : Int))), trivial⟩ [0] (by decide) rfl
  ·
    have p10 := of_decide_eq_false h2
    refine J.exit _ rfl ?_
    refine J.seq ?_
    refine J.region ?_
    refine O.p (Pu.move rfl) rfl ?_
    refine O.p (Pu.assign rfl) rfl ?_
    refine O.nil ?_
    exact J.ret (Fin.ret (rs := [.tmp 4]) rfl [_] ⟨rfl, trivial⟩ [0] (by decide) [row V 23 7 (out.map Ev.cells)] rfl (congrArg (fun o => ([row V 23 7 (o.map Ev.cells)] : List Sp)) (show out = Mono.of n l from (by rw [hst]; exact Tc.sel_all (by omega)))))

set_option maxRecDepth 100000 in
theorem r39_About (n : Int) (lv : Value) (l : List Ev) (hl : l.length ≤ 100000) : Tri Tryd.prog 30 #[.int .i64 n, lv] [rd lv 7 (l.map Ev.cells)] [] (fun v L' => L' = [row v 23 7 ((l.filter (Tc.about n)).map Ev.cells)]) := by
  refine Tri.enter (args := [.int .i64 n, lv]) (body := _) 50 Tryd.func30 rfl Tryd.ntmps30 rfl ?_
  intro w0
  refine J.seq ?_
  refine J.region ?_
  refine O.p (Pu.assign rfl) rfl ?_
  refine O.nil ?_
  refine J.seq ?_
  refine J.region ?_
  refine O.p (Pu.assign rfl) rfl ?_
  refine O.nil ?_
  refine J.seq ?_
  refine J.seq ?_
  refine J.region ?_
  refine O.p (Pu.assign rfl) rfl ?_
  refine O.nil ?_
  refine J.block ?_
  refine J.nilRow 23 7 ?_
  refine J.loop (X := Nat × Value × List Ev) (fun ξ => ξ.1 ≤ l.length ∧ ξ.2.2 = (l.take ξ.1).filter (Tc.about n) ∧ ξ.2.2.length ≤ ξ.1) (fun ξ => [(0, .int .i64 n), (1, lv), (4, Value.slice none 0 0), (5, ξ.2.1), (6, .int .i64 (ξ.1 : Int))]) (fun ξ => [row ξ.2.1 23 7 (ξ.2.2.map Ev.cells)]) (fun ξ => l.length - ξ.1) ⟨0, Value.slice none 0 0, []⟩ (show 0 ≤ l.length ∧ ([]) = (l.take 0).filter (Tc.about n) ∧ ([]).length ≤ 0 from ⟨by omega, rfl, by simp⟩) ⟨rfl, rfl, rfl, rfl, (congrArg (fun z => some (Value.int .i64 z)) (by first | rfl | omega : (0 : Int) = (0 : Int))), trivial⟩ [0] (by decide) rfl ?_
  rintro ⟨k, V, out⟩ hq1
  obtain ⟨hk, hst, hlen⟩ : k ≤ l.length ∧ out = (l.take k).filter (Tc.about n) ∧ out.length ≤ k := hq1
  show J _ _ [(0, .int .i64 n), (1, lv), (4, Value.slice none 0 0), (5, V), (6, .int .i64 (k : Int))] [row V 23 7 (out.map Ev.cells)]
  refine J.seq ?_
  refine J.seq ?_
  refine J.region ?_
  refine O.p (Pu.move rfl) rfl ?_
  refine O.p (Pu.move rfl) rfl ?_
  refine O.q (Qt.lenM Tryd.runUnderlying35 rfl (Src.ro 0 rfl)) rfl ?_
  refine O.p (Pu.lss rfl rfl) rfl ?_
  refine O.nil ?_
  refine J.cond rfl (fun h2 => ?_) (fun h2 => ?_)
  ·
    have p3 := of_decide_eq_true h2
    refine J.skip ?_
    refine J.seq ?_
    refine J.block ?_
    refine J.seq ?_
    refine J.region ?_
    refine O.p (Pu.move rfl) rfl ?_
    refine O.p (Pu.move rfl) rfl ?_
    obtain ⟨e4, he4⟩ : ∃ x_, l[k]? = some x_ := ⟨_, List.getElem?_eq_getElem (by first | omega | (simp only [List.length_append, List.length_cons, List.length_nil]; omega))⟩
    refine O.q (Qt.idxM Tryd.runUnderlying35 Tryd.sizeOf23 rfl (Src.ro 0 rfl) rfl (by first | omega | (simp only [List.length_append, List.length_cons, List.length_nil]; omega)) (by first | omega | (simp only [List.length_append, List.length_cons, List.length_nil]; omega))) rfl ?_
    refine O.p (Pu.fieldAddr (off' := voff lv + ((k : Int)).toNat * 7 + 0) Tryd.runUnderlying23 rfl Tryd.sizeOf3 rfl rfl rfl) rfl ?_
    refine O.q (Qt.ld rfl (Cel.eltM (Src.ro 0 rfl) he4) (o := (voff lv + k * 7)) (off := 0) (by omega) (Cut.one Tryd.isAgg3 rfl)) rfl ?_
    refine O.p (Pu.assign rfl) rfl ?_
    refine O.nil ?_
    refine J.seq ?_
    refine J.region ?_
    refine O.p (Pu.move rfl) rfl ?_
    refine O.p (Pu.move rfl) rfl ?_
    refine O.q (Qt.idxM Tryd.runUnderlying35 Tryd.sizeOf23 rfl (Src.ro 0 rfl) rfl (by first | omega | (simp only [List.length_append, List.length_cons, List.length_nil]; omega)) (by first | omega | (simp only [List.length_append, List.length_cons, List.length_nil]; omega))) rfl ?_
    refine O.p (Pu.fieldAddr (off' := voff lv + ((k : Int)).toNat * 7 + 3) Tryd.runUnderlying23 rfl Tryd.sizeOf3 rfl rfl rfl) rfl ?_
    refine O.q (Qt.ld rfl (Cel.eltM (Src.ro 0 rfl) he4) (o := (voff lv + k * 7)) (off := 3) (by omega) (Cut.one Tryd.isAgg3 rfl)) rfl ?_
    refine O.p (Pu.move rfl) rfl ?_
    refine O.p (Pu.eql rfl rfl) rfl ?_
    refine O.p (Pu.move rfl) rfl ?_
    refine by_bool (decide (e4.id = n)) (fun h5 => ?_) (fun h5 => ?_)
    ·
      have p6 := of_decide_eq_true h5
      refine O.gq (t := 26) rfl rfl h5 rfl (Pu.qt (Pu.move rfl)) rfl ?_
      refine O.gq (t := 26) rfl rfl h5 rfl (Pu.qt (Pu.geq rfl rfl)) rfl ?_
      refine O.gq (t := 26) rfl rfl h5 rfl (Pu.qt (Pu.move rfl)) rfl ?_
      refine by_bool (decide (1 ≤ e4.kind)) (fun h7 => ?_) (fun h7 => ?_)
      ·
        have p8 := of_decide_eq_true h7
        refine O.gq (t := 29) rfl rfl h7 rfl (Pu.qt (Pu.move rfl)) rfl ?_
        refine O.gq (t := 29) rfl rfl h7 rfl (Pu.qt (Pu.leq rfl rfl)) rfl ?_
        refine O.gq (t := 26) rfl rfl h5 rfl (Pu.qt (Pu.pickT rfl h7 rfl)) rfl ?_
        refine O.gq (t := 26) rfl rfl h5 rfl (Pu.qt (Pu.move rfl)) rfl ?_
        refine by_bool (decide (e4.kind ≤ 6)) (fun h9 => ?_) (fun h9 => ?_)
        ·
          have p10 := of_decide_eq_true h9
          refine O.gskip (t := 33) rfl rfl (no_bool (by rw [h9]; decide)) rfl rfl ?_
          refine O.gskip (t := 33) rfl rfl (no_bool (by rw [h9]; decide)) rfl rfl ?_
          refine O.gskip (t := 33) rfl rfl (no_bool (by rw [h9]; decide)) rfl rfl ?_
          refine O.gskip (t := 36) rfl rfl (no_undef _) rfl rfl ?_
          refine O.gskip (t := 36) rfl rfl (no_undef _) rfl rfl ?_
          refine O.gskip (t := 33) rfl rfl (no_bool (by rw [h9]; decide)) rfl rfl ?_
          refine O.gq (t := 26) rfl rfl h5 rfl (Pu.qt (Pu.pickT rfl h9 rfl)) rfl ?_
          refine O.p (Pu.pickT rfl h5 rfl) rfl ?_
          refine O.nil ?_
          refine J.condT rfl rfl ?_
          refine J.region ?_
          refine O.p (Pu.move rfl) rfl ?_
          refine O.p (Pu.move rfl) rfl ?_
          refine O.p (Pu.move rfl) rfl ?_
          refine O.q (Qt.idxM Tryd.runUnderlying35 Tryd.sizeOf23 rfl (Src.ro 0 rfl) rfl (by first | omega | (simp only [List.length_append, List.length_cons, List.length_nil]; omega)) (by first | omega | (simp only [List.length_append, List.length_cons, List.length_nil]; omega))) rfl ?_
          refine O.q (Qt.ld rfl (Cel.eltM (Src.ro 0 rfl) he4) (o := (voff lv + k * 7)) (off := 0) (by omega) (Cut.agg [.int .i64 e4.kind, .int .i64 e4.tick, .int .i64 e4.s, .int .i64 e4.id, .int .i64 e4.code, .int .i64 e4.a, .int .i64 e4.b] Tryd.isAgg23 Tryd.sizeOf23 rfl rfl)) rfl ?_
          refine O.l (Lo.buildM (s := 7) Ev.cells [e4] [(0, .agg #[.int .i64 e4.kind, .int .i64 e4.tick, .int .i64 e4.s, .int .i64 e4.id, .int .i64 e4.code, .int .i64 e4.a, .int .i64 e4.b])] (by exact Tryd.runUnderlying35) (by exact Tryd.sizeOf23) (by exact Tryd.zeroValue23) rfl rfl rfl (by kernel_rfl) rfl rfl) rfl ?_
          rintro V11 _ rfl
          refine O.l (Lo.appendM (s := 7) 1 (by exact Tryd.underlying35) (by exact (info23).1) (by exact (info23).2.1) (by exact (info23).2.2.1) (by exact (info23).2.2.2) rfl rfl rfl rfl rfl (Src.row 0 rfl) Ev.one (by first | omega | (simp only [List.length_append, List.length_cons, List.length_nil]; omega)) (by first | omega | (simp only [List.length_append, List.length_cons, List.length_nil]; omega))) rfl ?_
          rintro V12 _ rfl
          refine O.p (Pu.assign rfl) rfl ?_
          refine O.nil ?_
          refine J.blk ?_
          refine J.region ?_
          refine O.p (Pu.move rfl) rfl ?_
          refine O.p (Pu.add' rfl rfl (by first | omega | (simp only [List.length_append, List.length_cons, List.length_nil, List.length_set]; omega))) rfl ?_
          refine O.p (Pu.assign rfl) rfl ?_
          refine O.nil ?_
          exact J.lp ⟨k + 1, V12, out ++ ([e4])⟩ (show (k + 1) ≤ l.length ∧ (out ++ ([e4])) = (l.take (k + 1)).filter (Tc.about n) ∧ (out ++ ([e4])).length ≤ (k + 1) from ⟨by omega, (by rw [hst]; first | exact (Tc.sel_yes he4 (by simp only [Tc.about, *, decide_true, decide_false, Bool.and_true, Bool.true_and, Bool.and_false, Bool.false_and, Bool.or_true, Bool.true_or, Bool.or_false, Bool.false_or])).symm | exact (Tc.sel_no he4 (by simp only [Tc.about, *, decide_true, decide_false, Bool.and_true, Bool.true_and, Bool.and_false, Bool.false_and, Bool.or_true, Bool.true_or, Bool.or_false, Bool.false_or])).symm), by first | omega | (simp only [List.length_append, List.length_cons, List.length_nil]; omega)⟩) (show l.length - (k + 1) < l.length - k from (by first | omega | (simp only [List.length_append, List.length_cons, List.length_nil]; omega))) ⟨rfl, rfl, rfl, rfl, (congrArg (fun z => some (Value.int .i64 z)) (by first | rfl | omega : ((k : Int) + 1 : Int) = ((k + 1) : Int))), trivial⟩ [1] (by decide) rfl
        ·
          have p13 := of_decide_eq_false h9
          refine O.gq (t := 33) rfl rfl h9 rfl (Pu.qt (Pu.move rfl)) rfl ?_
          refine O.gq (t := 33) rfl rfl h9 rfl (Pu.qt (Pu.geq rfl rfl)) rfl ?_
          refine O.gq (t := 33) rfl rfl h9 rfl (Pu.qt (Pu.move rfl)) rfl ?_
          refine by_bool (decide (12 ≤ e4.kind)) (fun h14 => ?_) (fun h14 => ?_)
          ·
            have p15 := of_decide_eq_true h14
            refine O.gq (t := 36) rfl rfl h14 rfl (Pu.qt (Pu.move rfl)) rfl ?_
            refine O.gq (t := 36) rfl rfl h14 rfl (Pu.qt (Pu.leq rfl rfl)) rfl ?_
            refine O.gq (t := 33) rfl rfl h9 rfl (Pu.qt (Pu.pickT rfl h14 rfl)) rfl ?_
            refine O.gq (t := 26) rfl rfl h5 rfl (Pu.qt (Pu.pickF rfl h9 rfl)) rfl ?_
            refine O.p (Pu.pickT rfl h5 rfl) rfl ?_
            refine O.nil ?_
            refine J.cond rfl (fun h16 => ?_) (fun h16 => ?_)
            ·
              have p17 := of_decide_eq_true h16
              refine J.region ?_
              refine O.p (Pu.move rfl) rfl ?_
              refine O.p (Pu.move rfl) rfl ?_
              refine O.p (Pu.move rfl) rfl ?_
              refine O.q (Qt.idxM Tryd.runUnderlying35 Tryd.sizeOf23 rfl (Src.ro 0 rfl) rfl (by first | omega | (simp only [List.length_append, List.length_cons, List.length_nil]; omega)) (by first | omega | (simp only [List.length_append, List.length_cons, List.length_nil]; omega))) rfl ?_
              refine O.q (Qt.ld rfl (Cel.eltM (Src.ro 0 rfl) he4) (o := (voff lv + k * 7)) (off := 0) (by omega) (Cut.agg [.int .i64 e4.kind, .int .i64 e4.tick, .int .i64 e4.s, .int .i64 e4.id, .int .i64 e4.code, .int .i64 e4.a, .int .i64 e4.b] Tryd.isAgg23 Tryd.sizeOf23 rfl rfl)) rfl ?_
              refine O.l (Lo.buildM (s := 7) Ev.cells [e4] [(0, .agg #[.int .i64 e4.kind, .int .i64 e4.tick, .int .i64 e4.s, .int .i64 e4.id, .int .i64 e4.code, .int .i64 e4.a, .int .i64 e4.b])] (by exact Tryd.runUnderlying35) (by exact Tryd.sizeOf23) (by exact Tryd.zeroValue23) rfl rfl rfl (by kernel_rfl) rfl rfl) rfl ?_
              rintro V18 _ rfl
              refine O.l (Lo.appendM (s := 7) 1 (by exact Tryd.underlying35) (by exact (info23).1) (by exact (info23).2.1) (by exact (info23).2.2.1) (by exact (info23).2.2.2) rfl rfl rfl rfl rfl (Src.row 0 rfl) Ev.one (by first | omega | (simp only [List.length_append, List.length_cons, List.length_nil]; omega)) (by first | omega | (simp only [List.length_append, List.length_cons, List.length_nil]; omega))) rfl ?_
              rintro V19 _ rfl
              refine O.p (Pu.assign rfl) rfl ?_
              refine O.nil ?_
              refine J.blk ?_
              refine J.region ?_
              refine O.p (Pu.move rfl) rfl ?_
              refine O.p (Pu.add' rfl rfl (by first | omega | (simp only [List.length_append, List.length_cons, List.length_nil, List.length_set]; omega))) rfl ?_
              refine O.p (Pu.assign rfl) rfl ?_
              refine O.nil ?_
              exact J.lp ⟨k + 1, V19, out ++ ([e4])⟩ (show (k + 1) ≤ l.length ∧ (out ++ ([e4])) = (l.take (k + 1)).filter (Tc.about n) ∧ (out ++ ([e4])).length ≤ (k + 1) from ⟨by omega, (by rw [hst]; first | exact (Tc.sel_yes he4 (by simp only [Tc.about, *, decide_true, decide_false, Bool.and_true, Bool.true_and, Bool.and_false, Bool.false_and, Bool.or_true, Bool.true_or, Bool.or_false, Bool.false_or])).symm | exact (Tc.sel_no he4 (by simp only [Tc.about, *, decide_true, decide_false, Bool.and_true, Bool.true_and, Bool.and_false, Bool.false_and, Bool.or_true, Bool.true_or, Bool.or_false, Bool.false_or])).symm), by first | omega | (simp only [List.length_append, List.length_cons, List.length_nil]; omega)⟩) (show l.length - (k + 1) < l.length - k from (by first | omega | (simp only [List.length_append, List.length_cons, List.length_nil]; omega))) ⟨rfl, rfl, rfl, rfl, (congrArg (fun z => some (Value.int .i64 z)) (by first | rfl | omega : ((k : Int) + 1 : Int) = ((k + 1) : Int))), trivial⟩ [1] (by decide) rfl
            ·
              have p20 := of_decide_eq_false h16
              refine J.skip ?_
              refine J.blk ?_
              refine J.region ?_
              refine O.p (Pu.move rfl) rfl ?_
              refine O.p (Pu.add' rfl rfl (by first | omega | (simp only [List.length_append, List.length_cons, List.length_nil, List.length_set]; omega))) rfl ?_
              refine O.p (Pu.assign rfl) rfl ?_
              refine O.nil ?_
              exact J.lp ⟨k + 1, V, out⟩ (show (k + 1) ≤ l.length ∧ out = (l.take (k + 1)).filter (Tc.about n) ∧ out.length ≤ (k + 1) from ⟨by omega, (by rw [hst]; first | exact (Tc.sel_yes he4 (by simp only [Tc.about, *, decide_true, decide_false, Bool.and_true, Bool.true_and, Bool.and_false, Bool.false_and, Bool.or_true, Bool.true_or, Bool.or_false, Bool.false_or])).symm | exact (Tc.sel_no he4 (by simp only [Tc.about, *, decide_true, decide_false, Bool.and_true, Bool.true_and, Bool.and_false, Bool.false_and, Bool.or_true, Bool.true_or, Bool.or_false, Bool.false_or])).symm), by first | omega | (simp only [List.length_append, List.length_cons, List.length_nil]; omega)⟩) (show l.length - (k + 1) < l.length - k from (by first | omega | (simp only [List.length_append, List.length_cons, List.length_nil]; omega))) ⟨rfl, rfl, rfl, rfl, (congrArg (fun z => some (Value.int .i64 z)) (by first | rfl | omega : ((k : Int) + 1 : Int) = ((k + 1) : Int))), trivial⟩ [0] (by decide) rfl
          ·
            have p21 := of_decide_eq_false h14
            refine O.gskip (t := 36) rfl rfl (no_bool (by rw [h14]; decide)) rfl rfl ?_
            refine O.gskip (t := 36) rfl rfl (no_bool (by rw [h14]; decide)) rfl rfl ?_
            refine O.gq (t := 33) rfl rfl h9 rfl (Pu.qt (Pu.pickF rfl h14 rfl)) rfl ?_
            refine O.gq (t := 26) rfl rfl h5 rfl (Pu.qt (Pu.pickF rfl h9 rfl)) rfl ?_
            refine O.p (Pu.pickT rfl h5 rfl) rfl ?_
            refine O.nil ?_
            refine J.condF rfl rfl ?_
            refine J.skip ?_
            refine J.blk ?_
            refine J.region ?_
            refine O.p (Pu.move rfl) rfl ?_
            refine O.p (Pu.add' rfl rfl (by first | omega | (simp only [List.length_append, List.length_cons, List.length_nil, List.length_set]; omega))) rfl ?_
            refine O.p (Pu.assign rfl) rfl ?_
            refine O.nil ?_
            exact J.lp ⟨k + 1, V, out⟩ (show (k + 1) ≤ l.length ∧ out = (l.take (k + 1)).filter (Tc.about n) ∧ out.length ≤ (k + 1) from ⟨by omega, (by rw [hst]; first | exact (Tc.sel_yes he4 (by simp only [Tc.about, *, decide_true, decide_false, Bool.and_true, Bool.true_and, Bool.and_false, Bool.false_and, Bool.or_true, Bool.true_or, Bool.or_false, Bool.false_or])).symm | exact (Tc.sel_no he4 (by simp only [Tc.about, *, decide_true, decide_false, Bool.and_true, Bool.true_and, Bool.and_false, Bool.false_and, Bool.or_true, Bool.true_or, Bool.or_false, Bool.false_or])).symm), by first | omega | (simp only [List.length_append, List.length_cons, List.length_nil]; omega)⟩) (show l.length - (k + 1) < l.length - k from (by first | omega | (simp only [List.length_append, List.length_cons, List.length_nil]; omega))) ⟨rfl, rfl, rfl, rfl, (congrArg (fun z => some (Value.int .i64 z)) (by first | rfl | omega : ((k : Int) + 1 : Int) = ((k + 1) : Int))), trivial⟩ [0] (by decide) rfl
      ·
        have p22 := of_decide_eq_false h7
        refine O.gskip (t := 29) rfl rfl (no_bool (by rw [h7]; decide)) rfl rfl ?_
        refine O.gskip (t := 29) rfl rfl (no_bool (by rw [h7]; decide)) rfl rfl ?_
        refine O.gq (t := 26) rfl rfl h5 rfl (Pu.qt (Pu.pickF rfl h7 rfl)) rfl ?_
        refine O.gq (t := 26) rfl rfl h5 rfl (Pu.qt (Pu.move rfl)) rfl ?_
        refine O.gq (t := 33) rfl rfl rfl rfl (Pu.qt (Pu.move rfl)) rfl ?_
        refine O.gq (t := 33) rfl rfl rfl rfl (Pu.qt (Pu.geq rfl rfl)) rfl ?_
        refine O.gq (t := 33) rfl rfl rfl rfl (Pu.qt (Pu.move rfl)) rfl ?_
        refine by_bool (decide (12 ≤ e4.kind)) (fun h23 => ?_) (fun h23 => ?_)
        ·
          have p24 := of_decide_eq_true h23
          refine O.gq (t := 36) rfl rfl h23 rfl (Pu.qt (Pu.move rfl)) rfl ?_
          refine O.gq (t := 36) rfl rfl h23 rfl (Pu.qt (Pu.leq rfl rfl)) rfl ?_
          refine O.gq (t := 33) rfl rfl rfl rfl (Pu.qt (Pu.pickT rfl h23 rfl)) rfl ?_
          refine O.gq (t := 26) rfl rfl h5 rfl (Pu.qt (Pu.pickF rfl rfl rfl)) rfl ?_
          refine O.p (Pu.pickT rfl h5 rfl) rfl ?_
          refine O.nil ?_
          refine J.cond rfl (fun h25 => ?_) (fun h25 => ?_)
          ·
            have p26 := of_decide_eq_true h25
            refine J.region ?_
            refine O.p (Pu.move rfl) rfl ?_
            refine O.p (Pu.move rfl) rfl ?_
            refine O.p (Pu.move rfl) rfl ?_
            refine O.q (Qt.idxM Tryd.runUnderlying35 Tryd.sizeOf23 rfl (Src.ro 0 rfl) rfl (by first | omega | (simp only [List.length_append, List.length_cons, List.length_nil]; omega)) (by first | omega | (simp only [List.length_append, List.length_cons, List.length_nil]; omega))) rfl ?_
            refine O.q (Qt.ld rfl (Cel.eltM (Src.ro 0 rfl) he4) (o := (voff lv + k * 7)) (off := 0) (by omega) (Cut.agg [.int .i64 e4.kind, .int .i64 e4.tick, .int .i64 e4.s, .int .i64 e4.id, .int .i64 e4.code, .int .i64 e4.a, .int .i64 e4.b] Tryd.isAgg23 Tryd.sizeOf23 rfl rfl)) rfl ?_
            refine O.l (Lo.buildM (s := 7) Ev.cells [e4] [(0, .agg #[.int .i64 e4.kind, .int .i64 e4.tick, .int .i64 e4.s, .int .i64 e4.id, .int .i64 e4.code, .int .i64 e4.a, .int .i64 e4.b])] (by exact Tryd.runUnderlying35) (by exact Tryd.sizeOf23) (by exact Tryd.zeroValue23) rfl rfl rfl (by kernel_rfl) rfl rfl) rfl ?_
            rintro V27 _ rfl
            refine O.l (Lo.appendM (s := 7) 1 (by exact Tryd.underlying35) (by exact (info23).1) (by exact (info23).2.1) (by exact (info23).2.2.1) (by exact (info23).2.2.2) rfl rfl rfl rfl rfl (Src.row 0 rfl) Ev.one (by first | omega | (simp only [List.length_append, List.length_cons, List.length_nil]; omega)) (by first | omega | (simp only [List.length_append, List.length_cons, List.length_nil]; omega))) rfl ?_
            rintro V28 _ rfl
            refine O.p (Pu.assign rfl) rfl ?_
            refine O.nil ?_
            refine J.blk ?_
            refine J.region ?_
            refine O.p (Pu.move rfl) rfl ?_
            refine O.p (Pu.add' rfl rfl (by first | omega | (simp only [List.length_append, List.length_cons, List.length_nil, List.length_set]; omega))) rfl ?_
            refine O.p (Pu.assign rfl) rfl ?_
            refine O.nil ?_
            exact J.lp ⟨k + 1, V28, out ++ ([e4])⟩ (show (k + 1) ≤ l.length ∧ (out ++ ([e4])) = (l.take (k + 1)).filter (Tc.about n) ∧ (out ++ ([e4])).length ≤ (k + 1) from ⟨by omega, (by rw [hst]; first | exact (Tc.sel_yes he4 (by simp only [Tc.about, *, decide_true, decide_false, Bool.and_true, Bool.true_and, Bool.and_false, Bool.false_and, Bool.or_true, Bool.true_or, Bool.or_false, Bool.false_or])).symm | exact (Tc.sel_no he4 (by simp only [Tc.about, *, decide_true, decide_false, Bool.and_true, Bool.true_and, Bool.and_false, Bool.false_and, Bool.or_true, Bool.true_or, Bool.or_false, Bool.false_or])).symm), by first | omega | (simp only [List.length_append, List.length_cons, List.length_nil]; omega)⟩) (show l.length - (k + 1) < l.length - k from (by first | omega | (simp only [List.length_append, List.length_cons, List.length_nil]; omega))) ⟨rfl, rfl, rfl, rfl, (congrArg (fun z => some (Value.int .i64 z)) (by first | rfl | omega : ((k : Int) + 1 : Int) = ((k + 1) : Int))), trivial⟩ [1] (by decide) rfl
          ·
            have p29 := of_decide_eq_false h25
            refine J.skip ?_
            refine J.blk ?_
            refine J.region ?_
            refine O.p (Pu.move rfl) rfl ?_
            refine O.p (Pu.add' rfl rfl (by first | omega | (simp only [List.length_append, List.length_cons, List.length_nil, List.length_set]; omega))) rfl ?_
            refine O.p (Pu.assign rfl) rfl ?_
            refine O.nil ?_
            exact J.lp ⟨k + 1, V, out⟩ (show (k + 1) ≤ l.length ∧ out = (l.take (k + 1)).filter (Tc.about n) ∧ out.length ≤ (k + 1) from ⟨by omega, (by rw [hst]; first | exact (Tc.sel_yes he4 (by simp only [Tc.about, *, decide_true, decide_false, Bool.and_true, Bool.true_and, Bool.and_false, Bool.false_and, Bool.or_true, Bool.true_or, Bool.or_false, Bool.false_or])).symm | exact (Tc.sel_no he4 (by simp only [Tc.about, *, decide_true, decide_false, Bool.and_true, Bool.true_and, Bool.and_false, Bool.false_and, Bool.or_true, Bool.true_or, Bool.or_false, Bool.false_or])).symm), by first | omega | (simp only [List.length_append, List.length_cons, List.length_nil]; omega)⟩) (show l.length - (k + 1) < l.length - k from (by first | omega | (simp only [List.length_append, List.length_cons, List.length_nil]; omega))) ⟨rfl, rfl, rfl, rfl, (congrArg (fun z => some (Value.int .i64 z)) (by first | rfl | omega : ((k : Int) + 1 : Int) = ((k + 1) : Int))), trivial⟩ [0] (by decide) rfl
        ·
          have p30 := of_decide_eq_false h23
          refine O.gskip (t := 36) rfl rfl (no_bool (by rw [h23]; decide)) rfl rfl ?_
          refine O.gskip (t := 36) rfl rfl (no_bool (by rw [h23]; decide)) rfl rfl ?_
          refine O.gq (t := 33) rfl rfl rfl rfl (Pu.qt (Pu.pickF rfl h23 rfl)) rfl ?_
          refine O.gq (t := 26) rfl rfl h5 rfl (Pu.qt (Pu.pickF rfl rfl rfl)) rfl ?_
          refine O.p (Pu.pickT rfl h5 rfl) rfl ?_
          refine O.nil ?_
          refine J.condF rfl rfl ?_
          refine J.skip ?_
          refine J.blk ?_
          refine J.region ?_
          refine O.p (Pu.move rfl) rfl ?_
          refine O.p (Pu.add' rfl rfl (by first | omega | (simp only [List.length_append, List.length_cons, List.length_nil, List.length_set]; omega))) rfl ?_
          refine O.p (Pu.assign rfl) rfl ?_
          refine O.nil ?_
          exact J.lp ⟨k + 1, V, out⟩ (show (k + 1) ≤ l.length ∧ out = (l.take (k + 1)).filter (Tc.about n) ∧ out.length ≤ (k + 1) from ⟨by omega, (by rw [hst]; first | exact (Tc.sel_yes he4 (by simp only [Tc.about, *, decide_true, decide_false, Bool.and_true, Bool.true_and, Bool.and_false, Bool.false_and, Bool.or_true, Bool.true_or, Bool.or_false, Bool.false_or])).symm | exact (Tc.sel_no he4 (by simp only [Tc.about, *, decide_true, decide_false, Bool.and_true, Bool.true_and, Bool.and_false, Bool.false_and, Bool.or_true, Bool.true_or, Bool.or_false, Bool.false_or])).symm), by first | omega | (simp only [List.length_append, List.length_cons, List.length_nil]; omega)⟩) (show l.length - (k + 1) < l.length - k from (by first | omega | (simp only [List.length_append, List.length_cons, List.length_nil]; omega))) ⟨rfl, rfl, rfl, rfl, (congrArg (fun z => some (Value.int .i64 z)) (by first | rfl | omega : ((k : Int) + 1 : Int) = ((k + 1) : Int))), trivial⟩ [0] (by decide) rfl
    ·
      have p31 := of_decide_eq_false h5
      refine O.gskip (t := 26) rfl rfl (no_bool (by rw [h5]; decide)) rfl rfl ?_
      refine O.gskip (t := 26) rfl rfl (no_bool (by rw [h5]; decide)) rfl rfl ?_
      refine O.gskip (t := 26) rfl rfl (no_bool (by rw [h5]; decide)) rfl rfl ?_
      refine O.gskip (t := 29) rfl rfl (no_undef _) rfl rfl ?_
      refine O.gskip (t := 29) rfl rfl (no_undef _) rfl rfl ?_
      refine O.gskip (t := 26) rfl rfl (no_bool (by rw [h5]; decide)) rfl rfl ?_
      refine O.gskip (t := 26) rfl rfl (no_bool (by rw [h5]; decide)) rfl rfl ?_
      refine O.gskip (t := 33) rfl rfl (no_undef _) rfl rfl ?_
      refine O.gskip (t := 33) rfl rfl (no_undef _) rfl rfl ?_
      refine O.gskip (t := 33) rfl rfl (no_undef _) rfl rfl ?_
      refine O.gskip (t := 36) rfl rfl (no_undef _) rfl rfl ?_
      refine O.gskip (t := 36) rfl rfl (no_undef _) rfl rfl ?_
      refine O.gskip (t := 33) rfl rfl (no_undef _) rfl rfl ?_
      refine O.gskip (t := 26) rfl rfl (no_bool (by rw [h5]; decide)) rfl rfl ?_
      refine O.p (Pu.pickF rfl h5 rfl) rfl ?_
      refine O.nil ?_
      refine J.condF rfl rfl ?_
      refine J.skip ?_
      refine J.blk ?_
      refine J.region ?_
      refine O.p (Pu.move rfl) rfl ?_
      refine O.p (Pu.add' rfl rfl (by first | omega | (simp only [List.length_append, List.length_cons, List.length_nil, List.length_set]; omega))) rfl ?_
      refine O.p (Pu.assign rfl) rfl ?_
      refine O.nil ?_
      exact J.lp ⟨k + 1, V, out⟩ (show (k + 1) ≤ l.length ∧ out = (l.take (k + 1)).filter (Tc.about n) ∧ out.length ≤ (k + 1) from ⟨by omega, (by rw [hst]; first | exact (Tc.sel_yes he4 (by simp only [Tc.about, *, decide_true, decide_false, Bool.and_true, Bool.true_and, Bool.and_false, Bool.false_and, Bool.or_true, Bool.true_or, Bool.or_false, Bool.false_or])).symm | exact (Tc.sel_no he4 (by simp only [Tc.about, *, decide_true, decide_false, Bool.and_true, Bool.true_and, Bool.and_false, Bool.false_and, Bool.or_true, Bool.true_or, Bool.or_false, Bool.false_or])).symm), by first | omega | (simp only [List.length_append, List.length_cons, List.length_nil]; omega)⟩) (show l.length - (k + 1) < l.length - k from (by first | omega | (simp only [List.length_append, List.length_cons, List.length_nil]; omega))) ⟨rfl, rfl, rfl, rfl, (congrArg (fun z => some (Value.int .i64 z)) (by first | rfl | omega : ((k : Int) + 1 : Int) = ((k + 1) : Int))), trivial⟩ [0] (by decide) rfl
  ·
    have p32 := of_decide_eq_false h2
    refine J.exit _ rfl ?_
    refine J.seq ?_
    refine J.region ?_
    refine O.p (Pu.move rfl) rfl ?_
    refine O.p (Pu.assign rfl) rfl ?_
    refine O.nil ?_
    exact J.ret (Fin.ret (rs := [.tmp 4]) rfl [_] ⟨rfl, trivial⟩ [0] (by decide) [row V 23 7 (out.map Ev.cells)] rfl (congrArg (fun o => ([row V 23 7 (o.map Ev.cells)] : List Sp)) (show out = l.filter (Tc.about n) from (by rw [hst]; exact Tc.sel_all (by omega)))))

set_option maxRecDepth 100000 in
theorem trace_Count (lv : Value) (l : List Ev) (hl : l.length ≤ 100000) : Tri Tryd.prog 23 #[lv] [rd lv 7 (l.map Ev.cells)] [] (fun v L' => L' = [row v 3 1 ((Tc.cnt l).map encZ)]) := by
  refine Tri.enter (args := [lv]) (body := _) 30 Tryd.func23 rfl Tryd.ntmps23 rfl ?_
  intro w0
  refine J.seq ?_
  refine J.region ?_
  refine O.p (Pu.assign rfl) rfl ?_
  refine O.nil ?_
  refine J.seq ?_
  refine J.region ?_
  refine O.l (Lo.alloc [.int .i64 0, .int .i64 0, .int .i64 0, .int .i64 0, .int .i64 0, .int .i64 0, .int .i64 0, .int .i64 0, .int .i64 0, .int .i64 0, .int .i64 0, .int .i64 0, .int .i64 0, .int .i64 0, .int .i64 0, .int .i64 0] (by exact Tryd.zeroValue120) rfl) rfl ?_
  rintro _ _ ⟨g1, rfl, rfl⟩
  refine O.nil ?_
  refine J.seq ?_
  refine J.seq ?_
  refine J.region ?_
  refine O.p (Pu.move rfl) rfl ?_
  refine O.q (Qt.lenM Tryd.runUnderlying35 rfl (Src.ro 0 rfl)) rfl ?_
  refine O.p (Pu.move rfl) rfl ?_
  refine O.nil ?_
  refine J.block ?_
  refine J.loop (X := Nat × List Int) (fun ξ => ξ.1 ≤ l.length ∧ ξ.2 = Tc.cnt (l.take ξ.1)) (fun ξ => [(2, Value.slice none 0 0), (3, .pointer (some ⟨g1, 0, none⟩)), (6, lv), (7, .int .i64 (l.length : Int)), (8, .int .i64 (ξ.1 : Int))]) (fun ξ => [var g1 (ξ.2.map vI) 120]) (fun ξ => l.length - ξ.1) ⟨0, List.replicate 16 0⟩ (show 0 ≤ l.length ∧ (List.replicate 16 0) = Tc.cnt (l.take 0) from ⟨by omega, rfl⟩) ⟨rfl, rfl, rfl, rfl, (congrArg (fun z => some (Value.int .i64 z)) (by first | rfl | omega : (0 : Int) = (0 : Int))), trivial⟩ [0] (by decide) rfl ?_
  rintro ⟨k, m⟩ hq2
  obtain ⟨hk, hm⟩ : k ≤ l.length ∧ m = Tc.cnt (l.take k) := hq2
  show J _ _ [(2, Value.slice none 0 0), (3, .pointer (some ⟨g1, 0, none⟩)), (6, lv), (7, .int .i64 (l.length : Int)), (8, .int .i64 (k : Int))] [var g1 (m.map vI) 120]
  refine J.seq ?_
  refine J.region ?_
  refine O.p (Pu.lss rfl rfl) rfl ?_
  refine O.nil ?_
  refine J.seq ?_
  refine J.cond rfl (fun h3 => ?_) (fun h3 => ?_)
  ·
    have p4 := of_decide_eq_true h3
    refine J.skip ?_
    refine J.seq ?_
    refine J.block ?_
    refine J.seq ?_
    refine J.region ?_
    obtain ⟨e5, he5⟩ : ∃ x_, l[k]? = some x_ := ⟨_, List.getElem?_eq_getElem (by first | omega | decide | (have h_ := Tc.cnt_len (l.take k); rw [← hm] at h_; first | omega | (simp only [List.length_nil]; omega)) | (have h_ := Tc.cnt_le (by rw [← hm]; assumption); omega))⟩
    refine O.q (Qt.idxM Tryd.runUnderlying35 Tryd.sizeOf23 rfl (Src.ro 0 rfl) rfl (by first | omega | decide | (have h_ := Tc.cnt_len (l.take k); rw [← hm] at h_; first | omega | (simp only [List.length_nil]; omega)) | (have h_ := Tc.cnt_le (by rw [← hm]; assumption); omega)) (by first | omega | decide | (have h_ := Tc.cnt_len (l.take k); rw [← hm] at h_; first | omega | (simp only [List.length_nil]; omega)) | (have h_ := Tc.cnt_le (by rw [← hm]; assumption); omega))) rfl ?_
    refine O.q (Qt.ld rfl (Cel.eltM (Src.ro 0 rfl) he5) (o := (voff lv + k * 7)) (off := 0) (by omega) (Cut.agg [.int .i64 e5.kind, .int .i64 e5.tick, .int .i64 e5.s, .int .i64 e5.id, .int .i64 e5.code, .int .i64 e5.a, .int .i64 e5.b] Tryd.isAgg23 Tryd.sizeOf23 rfl rfl)) rfl ?_
    refine O.l (Lo.alloc [.int .i64 0, .int .i64 0, .int .i64 0, .int .i64 0, .int .i64 0, .int .i64 0, .int .i64 0] (by exact Tryd.zeroValue23) rfl) rfl ?_
    rintro _ _ ⟨g6, rfl, rfl⟩
    refine O.l0 (Lo.store 0 (vs := [.int .i64 e5.kind, .int .i64 e5.tick, .int .i64 e5.s, .int .i64 e5.id, .int .i64 e5.code, .int .i64 e5.a, .int .i64 e5.b]) [.int .i64 e5.kind, .int .i64 e5.tick, .int .i64 e5.s, .int .i64 e5.id, .int .i64 e5.code, .int .i64 e5.a, .int .i64 e5.b] rfl rfl rfl (by exact Tryd.sizeOf23) rfl rfl rfl rfl rfl) ?_
    rintro _ _ rfl
    refine O.nil ?_
    refine J.seq ?_
    refine J.region ?_
    refine O.p (Pu.fieldAddr (off' := 0) Tryd.runUnderlying23 rfl Tryd.sizeOf3 rfl rfl rfl) rfl ?_
    refine O.q (Qt.ld rfl (Cel.var 0 rfl) (o := 0) (off := 0) rfl (Cut.one Tryd.isAgg3 rfl)) rfl ?_
    refine O.p (Pu.geq rfl rfl) rfl ?_
    refine O.p (Pu.move rfl) rfl ?_
    refine by_bool (decide (0 ≤ e5.kind)) (fun h7 => ?_) (fun h7 => ?_)
    ·
      have p8 := of_decide_eq_true h7
      refine O.gq (t := 15) rfl rfl h7 rfl (Pu.qt (Pu.fieldAddr (off' := 0) Tryd.runUnderlying23 rfl Tryd.sizeOf3 rfl rfl rfl)) rfl ?_
      refine O.gq (t := 15) rfl rfl h7 rfl (Qt.ld rfl (Cel.var 0 rfl) (o := 0) (off := 0) rfl (Cut.one Tryd.isAgg3 rfl)) rfl ?_
      refine O.gq (t := 15) rfl rfl h7 rfl (Pu.qt (Pu.lss rfl rfl)) rfl ?_
      refine O.p (Pu.pickT rfl h7 rfl) rfl ?_
      refine O.nil ?_
      refine J.cond rfl (fun h9 => ?_) (fun h9 => ?_)
      ·
        have p10 := of_decide_eq_true h9
        refine J.region ?_
        refine O.p (Pu.fieldAddr (off' := 0) Tryd.runUnderlying23 rfl Tryd.sizeOf3 rfl rfl rfl) rfl ?_
        refine O.q (Qt.ld rfl (Cel.var 0 rfl) (o := 0) (off := 0) rfl (Cut.one Tryd.isAgg3 rfl)) rfl ?_
        obtain ⟨e11, he12⟩ : ∃ x_, m[(e5.kind).toNat]? = some x_ := ⟨_, List.getElem?_eq_getElem (by first | omega | decide | (have h_ := Tc.cnt_len (l.take k); rw [← hm] at h_; first | omega | (simp only [List.length_nil]; omega)) | (have h_ := Tc.cnt_le (by rw [← hm]; assumption); omega))⟩
        refine O.p (Pu.indexAddrG Tryd.runUnderlying120 Tryd.sizeOf3 rfl rfl (by first | omega | decide | (have h_ := Tc.cnt_len (l.take k); rw [← hm] at h_; first | omega | (simp only [List.length_nil]; omega)) | (have h_ := Tc.cnt_le (by rw [← hm]; assumption); omega)) (by first | omega | decide | (have h_ := Tc.cnt_len (l.take k); rw [← hm] at h_; first | omega | (simp only [List.length_nil]; omega)) | (have h_ := Tc.cnt_le (by rw [← hm]; assumption); omega))) rfl ?_
        refine O.q (Qt.ld rfl (Cel.var 1 rfl) (o := 0) (off := (e5.kind).toNat) (by omega) (Cut.one Tryd.isAgg3 (at_map he12))) rfl ?_
        refine O.p (Pu.add' rfl rfl (by first | omega | (have h_ := Tc.cnt_le (by rw [← hm]; assumption); omega))) rfl ?_
        refine O.p (Pu.indexAddrG Tryd.runUnderlying120 Tryd.sizeOf3 rfl rfl (by first | omega | decide | (have h_ := Tc.cnt_len (l.take k); rw [← hm] at h_; first | omega | (simp only [List.length_nil]; omega)) | (have h_ := Tc.cnt_le (by rw [← hm]; assumption); omega)) (by first | omega | decide | (have h_ := Tc.cnt_len (l.take k); rw [← hm] at h_; first | omega | (simp only [List.length_nil]; omega)) | (have h_ := Tc.cnt_le (by rw [← hm]; assumption); omega))) rfl ?_
        refine O.l0 (Lo.store 1 (vs := [.int .i64 (e11 + 1)]) ((m.set (e5.kind).toNat (e11 + 1)).map vI) rfl rfl rfl (by exact Tryd.sizeOf3) rfl rfl rfl (set_cells1 (f := vI) (x := e11 + 1) (l := m) (by first | omega | decide | (have h_ := Tc.cnt_len (l.take k); rw [← hm] at h_; first | omega | (simp only [List.length_nil]; omega)) | (have h_ := Tc.cnt_le (by rw [← hm]; assumption); omega))) (set_fits (f := vI) (l := m) (by first | omega | decide | (have h_ := Tc.cnt_len (l.take k); rw [← hm] at h_; first | omega | (simp only [List.length_nil]; omega)) | (have h_ := Tc.cnt_le (by rw [← hm]; assumption); omega)))) ?_
        rintro _ _ rfl
        refine O.nil ?_
        refine J.blk ?_
        refine J.region ?_
        refine O.p (Pu.add' rfl rfl (by first | omega | (have h_ := Tc.cnt_le (by rw [← hm]; assumption); omega))) rfl ?_
        refine O.p (Pu.move rfl) rfl ?_
        refine O.nil ?_
        exact J.lp ⟨k + 1, m.set (e5.kind).toNat (e11 + 1)⟩ (show (k + 1) ≤ l.length ∧ (m.set (e5.kind).toNat (e11 + 1)) = Tc.cnt (l.take (k + 1)) from ⟨by omega, (by rw [hm, Tc.cnt_next he5]; first | (rw [Tc.cntF_yes (by omega) (by omega) (by rw [← hm]; assumption)]; done) | (rw [Tc.cntF_yes (by omega) (by omega) (by rw [← hm]; assumption)]; rfl) | (rw [Tc.cntF_no (by omega)]))⟩) (show l.length - (k + 1) < l.length - k from (by first | omega | decide | (have h_ := Tc.cnt_len (l.take k); rw [← hm] at h_; first | omega | (simp only [List.length_nil]; omega)) | (have h_ := Tc.cnt_le (by rw [← hm]; assumption); omega))) ⟨rfl, rfl, rfl, rfl, (congrArg (fun z => some (Value.int .i64 z)) (by first | rfl | omega : ((k : Int) + 1 : Int) = ((k + 1) : Int))), trivial⟩ [1] (by decide) rfl
      ·
        have p13 := of_decide_eq_false h9
        refine J.skip ?_
        refine J.blk ?_
        refine J.region ?_
        refine O.p (Pu.add' rfl rfl (by first | omega | (have h_ := Tc.cnt_le (by rw [← hm]; assumption); omega))) rfl ?_
        refine O.p (Pu.move rfl) rfl ?_
        refine O.nil ?_
        exact J.lp ⟨k + 1, m⟩ (show (k + 1) ≤ l.length ∧ m = Tc.cnt (l.take (k + 1)) from ⟨by omega, (by rw [hm, Tc.cnt_next he5]; first | (rw [Tc.cntF_yes (by omega) (by omega) (by rw [← hm]; assumption)]; done) | (rw [Tc.cntF_yes (by omega) (by omega) (by rw [← hm]; assumption)]; rfl) | (rw [Tc.cntF_no (by omega)]))⟩) (show l.length - (k + 1) < l.length - k from (by first | omega | decide | (have h_ := Tc.cnt_len (l.take k); rw [← hm] at h_; first | omega | (simp only [List.length_nil]; omega)) | (have h_ := Tc.cnt_le (by rw [← hm]; assumption); omega))) ⟨rfl, rfl, rfl, rfl, (congrArg (fun z => some (Value.int .i64 z)) (by first | rfl | omega : ((k : Int) + 1 : Int) = ((k + 1) : Int))), trivial⟩ [1] (by decide) rfl
    ·
      have p14 := of_decide_eq_false h7
      refine O.gskip (t := 15) rfl rfl (no_bool (by rw [h7]; decide)) rfl rfl ?_
      refine O.gskip (t := 15) rfl rfl (no_bool (by rw [h7]; decide)) rfl rfl ?_
      refine O.gskip (t := 15) rfl rfl (no_bool (by rw [h7]; decide)) rfl rfl ?_
      refine O.p (Pu.pickF rfl h7 rfl) rfl ?_
      refine O.nil ?_
      refine J.condF rfl rfl ?_
      refine J.skip ?_
      refine J.blk ?_
      refine J.region ?_
      refine O.p (Pu.add' rfl rfl (by first | omega | (have h_ := Tc.cnt_le (by rw [← hm]; assumption); omega))) rfl ?_
      refine O.p (Pu.move rfl) rfl ?_
      refine O.nil ?_
      exact J.lp ⟨k + 1, m⟩ (show (k + 1) ≤ l.length ∧ m = Tc.cnt (l.take (k + 1)) from ⟨by omega, (by rw [hm, Tc.cnt_next he5]; first | (rw [Tc.cntF_yes (by omega) (by omega) (by rw [← hm]; assumption)]; done) | (rw [Tc.cntF_yes (by omega) (by omega) (by rw [← hm]; assumption)]; rfl) | (rw [Tc.cntF_no (by omega)]))⟩) (show l.length - (k + 1) < l.length - k from (by first | omega | decide | (have h_ := Tc.cnt_len (l.take k); rw [← hm] at h_; first | omega | (simp only [List.length_nil]; omega)) | (have h_ := Tc.cnt_le (by rw [← hm]; assumption); omega))) ⟨rfl, rfl, rfl, rfl, (congrArg (fun z => some (Value.int .i64 z)) (by first | rfl | omega : ((k : Int) + 1 : Int) = ((k + 1) : Int))), trivial⟩ [1] (by decide) rfl
  ·
    have p15 := of_decide_eq_false h3
    refine J.exit _ rfl ?_
    refine J.seq ?_
    refine J.region ?_
    refine O.l (Lo.buildE encZ (by exact Tryd.runUnderlying40) (by exact Tryd.sizeOf3)) rfl ?_
    rintro V16 _ rfl
    refine O.p (Pu.wholeArr Tryd.runUnderlying120 Tryd.sizeOf3 rfl) rfl ?_
    refine O.l (Lo.appendM (s := 1) 0 (by exact Tryd.underlying40) (by exact (info3).1) (by exact (info3).2.1) (by exact (info3).2.2.1) (by exact (info3).2.2.2) rfl rfl rfl rfl rfl (Src.whole 1 rfl (by rw [hm]; exact Tc.cnt_len _) (by decide)) encZ.one (by first | omega | decide | (have h_ := Tc.cnt_len (l.take k); rw [← hm] at h_; first | omega | (simp only [List.length_nil]; omega)) | (have h_ := Tc.cnt_le (by rw [← hm]; assumption); omega)) (by first | omega | decide | (have h_ := Tc.cnt_len (l.take k); rw [← hm] at h_; first | omega | (simp only [List.length_nil]; omega)) | (have h_ := Tc.cnt_le (by rw [← hm]; assumption); omega))) rfl ?_
    rintro V17 _ rfl
    refine O.p (Pu.assign rfl) rfl ?_
    refine O.nil ?_
    exact J.ret (Fin.ret (rs := [.tmp 2]) rfl [_] ⟨rfl, trivial⟩ [0] (by decide) [row V17 3 1 ((([] : List Int) ++ m).map encZ)] rfl (congrArg (fun (o : List Int) => ([row V17 3 1 (o.map encZ)] : List Sp)) (show [] ++ m = Tc.cnt l from (by rw [hm, Tc.cnt_all (by omega)]; rfl))))

set_option maxRecDepth 100000 in
theorem r39_Count (lv : Value) (l : List Ev) (hl : l.length ≤ 100000) : Tri Tryd.prog 31 #[lv] [rd lv 7 (l.map Ev.cells)] [] (fun v L' => L' = [row v 3 1 ((Tc.cnt l).map encZ)]) := by
  refine Tri.enter (args := [lv]) (body := _) 43 Tryd.func31 rfl Tryd.ntmps31 rfl ?_
  intro w0
  refine J.seq ?_
  refine J.region ?_
  refine O.p (Pu.assign rfl) rfl ?_
  refine O.nil ?_
  refine J.seq ?_
  refine J.region ?_
  refine O.l (Lo.makeSlice (n := 16) (s := 1) (bytes := 8) ((List.replicate 16 (0 : Int)).map encZ) (by exact Tryd.runUnderlying40) (fun w => run_typeInfo w (by exact (info3).1)) (by exact (info3).2.2.2) (by exact Tryd.sizeOf3) (by exact Tryd.zeroValue3) rfl rfl rfl rfl rfl (by kernel_rfl) rfl rfl) rfl ?_
  rintro V1 _ rfl
  refine O.p (Pu.assign rfl) rfl ?_
  refine O.nil ?_
  refine J.seq ?_
  refine J.seq ?_
  refine J.region ?_
  refine O.p (Pu.assign rfl) rfl ?_
  refine O.nil ?_
  refine J.block ?_
  refine J.loop (X := Nat × List Int) (fun ξ => ξ.1 ≤ l.length ∧ ξ.2 = Tc.cnt (l.take ξ.1)) (fun ξ => [(0, lv), (2, Value.slice none 0 0), (3, V1), (4, .int .i64 (ξ.1 : Int))]) (fun ξ => [row V1 3 1 (ξ.2.map encZ)]) (fun ξ => l.length - ξ.1) ⟨0, List.replicate 16 0⟩ (show 0 ≤ l.length ∧ (List.replicate 16 0) = Tc.cnt (l.take 0) from ⟨by omega, rfl⟩) ⟨rfl, rfl, rfl, (congrArg (fun z => some (Value.int .i64 z)) (by first | rfl | omega : (0 : Int) = (0 : Int))), trivial⟩ [0] (by decide) rfl ?_
  rintro ⟨k, m⟩ hq2
  obtain ⟨hk, hm⟩ : k ≤ l.length ∧ m = Tc.cnt (l.take k) := hq2
  show J _ _ [(0, lv), (2, Value.slice none 0 0), (3, V1), (4, .int .i64 (k : Int))] [row V1 3 1 (m.map encZ)]
  refine J.seq ?_
  refine J.seq ?_
  refine J.region ?_
  refine O.p (Pu.move rfl) rfl ?_
  refine O.p (Pu.move rfl) rfl ?_
  refine O.q (Qt.lenM Tryd.runUnderlying35 rfl (Src.ro 0 rfl)) rfl ?_
  refine O.p (Pu.lss rfl rfl) rfl ?_
  refine O.nil ?_
  refine J.cond rfl (fun h3 => ?_) (fun h3 => ?_)
  ·
    have p4 := of_decide_eq_true h3
    refine J.skip ?_
    refine J.seq ?_
    refine J.block ?_
    refine J.seq ?_
    refine J.region ?_
    refine O.p (Pu.move rfl) rfl ?_
    refine O.p (Pu.move rfl) rfl ?_
    obtain ⟨e5, he5⟩ : ∃ x_, l[k]? = some x_ := ⟨_, List.getElem?_eq_getElem (by first | omega | decide | (have h_ := Tc.cnt_len (l.take k); rw [← hm] at h_; first | omega | (simp only [List.length_nil]; omega)) | (have h_ := Tc.cnt_le (by rw [← hm]; assumption); omega))⟩
    refine O.q (Qt.idxM Tryd.runUnderlying35 Tryd.sizeOf23 rfl (Src.ro 0 rfl) rfl (by first | omega | decide | (have h_ := Tc.cnt_len (l.take k); rw [← hm] at h_; first | omega | (simp only [List.length_nil]; omega)) | (have h_ := Tc.cnt_le (by rw [← hm]; assumption); omega)) (by first | omega | decide | (have h_ := Tc.cnt_len (l.take k); rw [← hm] at h_; first | omega | (simp only [List.length_nil]; omega)) | (have h_ := Tc.cnt_le (by rw [← hm]; assumption); omega))) rfl ?_
    refine O.p (Pu.fieldAddr (off' := voff lv + ((k : Int)).toNat * 7 + 0) Tryd.runUnderlying23 rfl Tryd.sizeOf3 rfl rfl rfl) rfl ?_
    refine O.q (Qt.ld rfl (Cel.eltM (Src.ro 0 rfl) he5) (o := (voff lv + k * 7)) (off := 0) (by omega) (Cut.one Tryd.isAgg3 rfl)) rfl ?_
    refine O.p (Pu.geq rfl rfl) rfl ?_
    refine O.p (Pu.move rfl) rfl ?_
    refine by_bool (decide (0 ≤ e5.kind)) (fun h6 => ?_) (fun h6 => ?_)
    ·
      have p7 := of_decide_eq_true h6
      refine O.gq (t := 18) rfl rfl h6 rfl (Pu.qt (Pu.move rfl)) rfl ?_
      refine O.gq (t := 18) rfl rfl h6 rfl (Pu.qt (Pu.move rfl)) rfl ?_
      refine O.gq (t := 18) rfl rfl h6 rfl (Qt.idxM Tryd.runUnderlying35 Tryd.sizeOf23 rfl (Src.ro 0 rfl) rfl (by first | omega | decide | (have h_ := Tc.cnt_len (l.take k); rw [← hm] at h_; first | omega | (simp only [List.length_nil]; omega)) | (have h_ := Tc.cnt_le (by rw [← hm]; assumption); omega)) (by first | omega | decide | (have h_ := Tc.cnt_len (l.take k); rw [← hm] at h_; first | omega | (simp only [List.length_nil]; omega)) | (have h_ := Tc.cnt_le (by rw [← hm]; assumption); omega))) rfl ?_
      refine O.gq (t := 18) rfl rfl h6 rfl (Pu.qt (Pu.fieldAddr (off' := voff lv + ((k : Int)).toNat * 7 + 0) Tryd.runUnderlying23 rfl Tryd.sizeOf3 rfl rfl rfl)) rfl ?_
      refine O.gq (t := 18) rfl rfl h6 rfl (Qt.ld rfl (Cel.eltM (Src.ro 0 rfl) he5) (o := (voff lv + k * 7)) (off := 0) (by omega) (Cut.one Tryd.isAgg3 rfl)) rfl ?_
      refine O.gq (t := 18) rfl rfl h6 rfl (Pu.qt (Pu.leq rfl rfl)) rfl ?_
      refine O.p (Pu.pickT rfl h6 rfl) rfl ?_
      refine O.nil ?_
      refine J.cond rfl (fun h8 => ?_) (fun h8 => ?_)
      ·
        have p9 := of_decide_eq_true h8
        refine J.drawTail 16 Tryd.mixed (by kernel_rfl) ?_
        refine S.p (Pu.move rfl) rfl ?_
        refine S.p (Pu.move rfl) rfl ?_
        refine S.p (Pu.move rfl) rfl ?_
        refine S.q (Qt.idxM Tryd.runUnderlying35 Tryd.sizeOf23 rfl (Src.ro 0 rfl) rfl (by first | omega | decide | (have h_ := Tc.cnt_len (l.take k); rw [← hm] at h_; first | omega | (simp only [List.length_nil]; omega)) | (have h_ := Tc.cnt_le (by rw [← hm]; assumption); omega)) (by first | omega | decide | (have h_ := Tc.cnt_len (l.take k); rw [← hm] at h_; first | omega | (simp only [List.length_nil]; omega)) | (have h_ := Tc.cnt_le (by rw [← hm]; assumption); omega))) rfl ?_
        refine S.p (Pu.fieldAddr (off' := voff lv + ((k : Int)).toNat * 7 + 0) Tryd.runUnderlying23 rfl Tryd.sizeOf3 rfl rfl rfl) rfl ?_
        refine S.q (Qt.ld rfl (Cel.eltM (Src.ro 0 rfl) he5) (o := (voff lv + k * 7)) (off := 0) (by omega) (Cut.one Tryd.isAgg3 rfl)) rfl ?_
        refine S.p (Pu.move rfl) rfl ?_
        refine S.p (Pu.move rfl) rfl ?_
        refine S.p (Pu.move rfl) rfl ?_
        refine S.q (Qt.idxM Tryd.runUnderlying35 Tryd.sizeOf23 rfl (Src.ro 0 rfl) rfl (by first | omega | decide | (have h_ := Tc.cnt_len (l.take k); rw [← hm] at h_; first | omega | (simp only [List.length_nil]; omega)) | (have h_ := Tc.cnt_le (by rw [← hm]; assumption); omega)) (by first | omega | decide | (have h_ := Tc.cnt_len (l.take k); rw [← hm] at h_; first | omega | (simp only [List.length_nil]; omega)) | (have h_ := Tc.cnt_le (by rw [← hm]; assumption); omega))) rfl ?_
        refine S.p (Pu.fieldAddr (off' := voff lv + ((k : Int)).toNat * 7 + 0) Tryd.runUnderlying23 rfl Tryd.sizeOf3 rfl rfl rfl) rfl ?_
        refine S.q (Qt.ld rfl (Cel.eltM (Src.ro 0 rfl) he5) (o := (voff lv + k * 7)) (off := 0) (by omega) (Cut.one Tryd.isAgg3 rfl)) rfl ?_
        obtain ⟨e10, he10⟩ : ∃ x_, m[(e5.kind).toNat]? = some x_ := ⟨_, List.getElem?_eq_getElem (by first | omega | decide | (have h_ := Tc.cnt_len (l.take k); rw [← hm] at h_; first | omega | (simp only [List.length_nil]; omega)) | (have h_ := Tc.cnt_le (by rw [← hm]; assumption); omega))⟩
        refine S.q (Qt.idxM Tryd.runUnderlying40 Tryd.sizeOf3 rfl (Src.row 0 rfl) rfl (by first | omega | decide | (have h_ := Tc.cnt_len (l.take k); rw [← hm] at h_; first | omega | (simp only [List.length_nil]; omega)) | (have h_ := Tc.cnt_le (by rw [← hm]; assumption); omega)) (by first | omega | decide | (have h_ := Tc.cnt_len (l.take k); rw [← hm] at h_; first | omega | (simp only [List.length_nil]; omega)) | (have h_ := Tc.cnt_le (by rw [← hm]; assumption); omega))) rfl ?_
        refine S.q (Qt.ld rfl (Cel.eltM (Src.row 0 rfl) he10) (o := (voff V1 + ((e5.kind).toNat) * 1)) (off := 0) (by omega) (Cut.one Tryd.isAgg3 rfl)) rfl ?_
        refine S.p (Pu.add' rfl rfl (by first | omega | (have h_ := Tc.cnt_le (by rw [← hm]; assumption); omega))) rfl ?_
        refine S.q (Qt.idxM Tryd.runUnderlying40 Tryd.sizeOf3 rfl (Src.row 0 rfl) rfl (by first | omega | decide | (have h_ := Tc.cnt_len (l.take k); rw [← hm] at h_; first | omega | (simp only [List.length_nil]; omega)) | (have h_ := Tc.cnt_le (by rw [← hm]; assumption); omega)) (by first | omega | decide | (have h_ := Tc.cnt_len (l.take k); rw [← hm] at h_; first | omega | (simp only [List.length_nil]; omega)) | (have h_ := Tc.cnt_le (by rw [← hm]; assumption); omega))) rfl ?_
        refine S.endO ?_
        refine O.l0 (Lo.storeM 0 (j := (e5.kind).toNat) (off := 0) (vs := [.int .i64 (e10 + 1)]) (e := [.int .i64 e10]) (e10 + 1) rfl rfl rfl rfl (by omega) he10 rfl (by exact Tryd.sizeOf3) rfl rfl rfl rfl rfl) ?_
        rintro _ _ rfl
        have hs11 : (m.set (e5.kind).toNat (e10 + 1))[(e5.kind).toNat]? = some (e10 + 1) := List.getElem?_set_self (List.getElem?_eq_some_iff.1 he10).1
        refine O.nil ?_
        refine J.blk ?_
        refine J.region ?_
        refine O.p (Pu.move rfl) rfl ?_
        refine O.p (Pu.add' rfl rfl (by first | omega | (have h_ := Tc.cnt_le (by rw [← hm]; assumption); omega))) rfl ?_
        refine O.p (Pu.assign rfl) rfl ?_
        refine O.nil ?_
        exact J.lp ⟨k + 1, m.set (e5.kind).toNat (e10 + 1)⟩ (show (k + 1) ≤ l.length ∧ (m.set (e5.kind).toNat (e10 + 1)) = Tc.cnt (l.take (k + 1)) from ⟨by omega, (by rw [hm, Tc.cnt_next he5]; first | (rw [Tc.cntF_yes (by omega) (by omega) (by rw [← hm]; assumption)]; done) | (rw [Tc.cntF_yes (by omega) (by omega) (by rw [← hm]; assumption)]; rfl) | (rw [Tc.cntF_no (by omega)]))⟩) (show l.length - (k + 1) < l.length - k from (by first | omega | decide | (have h_ := Tc.cnt_len (l.take k); rw [← hm] at h_; first | omega | (simp only [List.length_nil]; omega)) | (have h_ := Tc.cnt_le (by rw [← hm]; assumption); omega))) ⟨rfl, rfl, rfl, (congrArg (fun z => some (Value.int .i64 z)) (by first | rfl | omega : ((k : Int) + 1 : Int) = ((k + 1) : Int))), trivial⟩ [0] (by decide) rfl
      ·
        have p12 := of_decide_eq_false h8
        refine J.skip ?_
        refine J.blk ?_
        refine J.region ?_
        refine O.p (Pu.move rfl) rfl ?_
        refine O.p (Pu.add' rfl rfl (by first | omega | (have h_ := Tc.cnt_le (by rw [← hm]; assumption); omega))) rfl ?_
        refine O.p (Pu.assign rfl) rfl ?_
        refine O.nil ?_
        exact J.lp ⟨k + 1, m⟩ (show (k + 1) ≤ l.length ∧ m = Tc.cnt (l.take (k + 1)) from ⟨by omega, (by rw [hm, Tc.cnt_next he5]; first | (rw [Tc.cntF_yes (by omega) (by omega) (by rw [← hm]; assumption)]; done) | (rw [Tc.cntF_yes (by omega) (by omega) (by rw [← hm]; assumption)]; rfl) | (rw [Tc.cntF_no (by omega)]))⟩) (show l.length - (k + 1) < l.length - k from (by first | omega | decide | (have h_ := Tc.cnt_len (l.take k); rw [← hm] at h_; first | omega | (simp only [List.length_nil]; omega)) | (have h_ := Tc.cnt_le (by rw [← hm]; assumption); omega))) ⟨rfl, rfl, rfl, (congrArg (fun z => some (Value.int .i64 z)) (by first | rfl | omega : ((k : Int) + 1 : Int) = ((k + 1) : Int))), trivial⟩ [0] (by decide) rfl
    ·
      have p13 := of_decide_eq_false h6
      refine O.gskip (t := 18) rfl rfl (no_bool (by rw [h6]; decide)) rfl rfl ?_
      refine O.gskip (t := 18) rfl rfl (no_bool (by rw [h6]; decide)) rfl rfl ?_
      refine O.gskip (t := 18) rfl rfl (no_bool (by rw [h6]; decide)) rfl rfl ?_
      refine O.gskip (t := 18) rfl rfl (no_bool (by rw [h6]; decide)) rfl rfl ?_
      refine O.gskip (t := 18) rfl rfl (no_bool (by rw [h6]; decide)) rfl rfl ?_
      refine O.gskip (t := 18) rfl rfl (no_bool (by rw [h6]; decide)) rfl rfl ?_
      refine O.p (Pu.pickF rfl h6 rfl) rfl ?_
      refine O.nil ?_
      refine J.condF rfl rfl ?_
      refine J.skip ?_
      refine J.blk ?_
      refine J.region ?_
      refine O.p (Pu.move rfl) rfl ?_
      refine O.p (Pu.add' rfl rfl (by first | omega | (have h_ := Tc.cnt_le (by rw [← hm]; assumption); omega))) rfl ?_
      refine O.p (Pu.assign rfl) rfl ?_
      refine O.nil ?_
      exact J.lp ⟨k + 1, m⟩ (show (k + 1) ≤ l.length ∧ m = Tc.cnt (l.take (k + 1)) from ⟨by omega, (by rw [hm, Tc.cnt_next he5]; first | (rw [Tc.cntF_yes (by omega) (by omega) (by rw [← hm]; assumption)]; done) | (rw [Tc.cntF_yes (by omega) (by omega) (by rw [← hm]; assumption)]; rfl) | (rw [Tc.cntF_no (by omega)]))⟩) (show l.length - (k + 1) < l.length - k from (by first | omega | decide | (have h_ := Tc.cnt_len (l.take k); rw [← hm] at h_; first | omega | (simp only [List.length_nil]; omega)) | (have h_ := Tc.cnt_le (by rw [← hm]; assumption); omega))) ⟨rfl, rfl, rfl, (congrArg (fun z => some (Value.int .i64 z)) (by first | rfl | omega : ((k : Int) + 1 : Int) = ((k + 1) : Int))), trivial⟩ [0] (by decide) rfl
  ·
    have p14 := of_decide_eq_false h3
    refine J.exit _ rfl ?_
    refine J.seq ?_
    refine J.region ?_
    refine O.p (Pu.move rfl) rfl ?_
    refine O.p (Pu.assign rfl) rfl ?_
    refine O.nil ?_
    exact J.ret (Fin.ret (rs := [.tmp 2]) rfl [_] ⟨rfl, trivial⟩ [0] (by decide) [row V1 3 1 (m.map encZ)] rfl (congrArg (fun (o : List Int) => ([row V1 3 1 (o.map encZ)] : List Sp)) (show m = Tc.cnt l from (by rw [hm, Tc.cnt_all (by omega)]))))

set_option maxRecDepth 100000 in
theorem r35_Same (av bv : Value) (l : List Ev) (hl : l.length ≤ 100000) : Tri Tryd.prog 22 #[av, bv] [rd av 7 (l.map Ev.cells), rd bv 7 (l.map Ev.cells)] [] (fun v L' => v = .bool true ∧ L' = []) := by
  refine Tri.enter (args := [av, bv]) (body := _) 32 Tryd.func22 rfl Tryd.ntmps22 rfl ?_
  intro w0
  refine J.seq ?_
  refine J.region ?_
  refine O.p (Pu.assign rfl) rfl ?_
  refine O.nil ?_
  refine J.seq ?_
  refine J.seq ?_
  refine J.region ?_
  refine O.p (Pu.move rfl) rfl ?_
  refine O.q (Qt.lenM Tryd.runUnderlying35 rfl (Src.ro 0 rfl)) rfl ?_
  refine O.p (Pu.move rfl) rfl ?_
  refine O.q (Qt.lenM Tryd.runUnderlying35 rfl (Src.ro 1 rfl)) rfl ?_
  refine O.p (Pu.neq rfl rfl) rfl ?_
  refine O.nil ?_
  refine J.condF rfl (by simp) ?_
  refine J.skip ?_
  refine J.seq ?_
  refine J.seq ?_
  refine J.region ?_
  refine O.p (Pu.assign rfl) rfl ?_
  refine O.nil ?_
  refine J.block ?_
  refine J.loop (X := Nat) (fun ξ => ξ ≤ l.length) (fun ξ => [(0, av), (1, bv), (5, .int .i64 (ξ : Int))]) (fun ξ => []) (fun ξ => l.length - ξ) 0 (show 0 ≤ l.length from (by omega)) ⟨rfl, rfl, (congrArg (fun z => some (Value.int .i64 z)) (by first | rfl | omega : (0 : Int) = (0 : Int))), trivial⟩ [] (by decide) rfl ?_
  rintro k hq1
  obtain hk : k ≤ l.length := hq1
  show J _ _ [(0, av), (1, bv), (5, .int .i64 (k : Int))] []
  refine J.seq ?_
  refine J.seq ?_
  refine J.region ?_
  refine O.p (Pu.move rfl) rfl ?_
  refine O.p (Pu.move rfl) rfl ?_
  refine O.q (Qt.lenM Tryd.runUnderlying35 rfl (Src.ro 0 rfl)) rfl ?_
  refine O.p (Pu.lss rfl rfl) rfl ?_
  refine O.p (Pu.move rfl) rfl ?_
  refine by_bool (decide ((k : Int) < (l.length : Int))) (fun h2 => ?_) (fun h2 => ?_)
  ·
    have p3 := of_decide_eq_true h2
    refine O.gq (t := 15) rfl rfl h2 rfl (Pu.qt (Pu.move rfl)) rfl ?_
    refine O.gq (t := 15) rfl rfl h2 rfl (Pu.qt (Pu.move rfl)) rfl ?_
    refine O.gq (t := 15) rfl rfl h2 rfl (Qt.lenM Tryd.runUnderlying35 rfl (Src.ro 1 rfl)) rfl ?_
    refine O.gq (t := 15) rfl rfl h2 rfl (Pu.qt (Pu.lss rfl rfl)) rfl ?_
    refine O.p (Pu.pickT rfl h2 rfl) rfl ?_
    refine O.nil ?_
    refine J.condT rfl h2 ?_
    refine J.skip ?_
    refine J.seq ?_
    refine J.block ?_
    refine J.seq ?_
    refine J.drawStill Tryd.mixed (by kernel_rfl) ?_
    refine S.p (Pu.move rfl) rfl ?_
    refine S.p (Pu.move rfl) rfl ?_
    obtain ⟨e4, he4⟩ : ∃ x_, l[k]? = some x_ := ⟨_, List.getElem?_eq_getElem (by first | omega | (simp only [List.length_append, List.length_cons, List.length_nil, List.length_set]; omega))⟩
    refine S.q (Qt.idxM Tryd.runUnderlying35 Tryd.sizeOf23 rfl (Src.ro 0 rfl) rfl (by first | omega | (simp only [List.length_append, List.length_cons, List.length_nil, List.length_set]; omega)) (by first | omega | (simp only [List.length_append, List.length_cons, List.length_nil, List.length_set]; omega))) rfl ?_
    refine S.q (Qt.ld rfl (Cel.eltM (Src.ro 0 rfl) he4) (o := (voff av + k * 7)) (off := 0) (by omega) (Cut.agg [.int .i64 e4.kind, .int .i64 e4.tick, .int .i64 e4.s, .int .i64 e4.id, .int .i64 e4.code, .int .i64 e4.a, .int .i64 e4.b] Tryd.isAgg23 Tryd.sizeOf23 rfl rfl)) rfl ?_
    refine S.p (Pu.move rfl) rfl ?_
    refine S.p (Pu.move rfl) rfl ?_
    refine S.q (Qt.idxM Tryd.runUnderlying35 Tryd.sizeOf23 rfl (Src.ro 1 rfl) rfl (by first | omega | (simp only [List.length_append, List.length_cons, List.length_nil, List.length_set]; omega)) (by first | omega | (simp only [List.length_append, List.length_cons, List.length_nil, List.length_set]; omega))) rfl ?_
    refine S.q (Qt.ld rfl (Cel.eltM (Src.ro 1 rfl) he4) (o := (voff bv + k * 7)) (off := 0) (by omega) (Cut.agg [.int .i64 e4.kind, .int .i64 e4.tick, .int .i64 e4.s, .int .i64 e4.id, .int .i64 e4.code, .int .i64 e4.a, .int .i64 e4.b] Tryd.isAgg23 Tryd.sizeOf23 rfl rfl)) rfl ?_
    refine S.p (Pu.neqI [e4.kind, e4.tick, e4.s, e4.id, e4.code, e4.a, e4.b] [e4.kind, e4.tick, e4.s, e4.id, e4.code, e4.a, e4.b] Tryd.underlying23 Tryd.stoodInHeld23 Tryd.eqGuardType23 (fint23 Tryd.underlying23) rfl rfl rfl rfl) rfl ?_
    refine S.endJ ?_
    refine J.condF rfl (not_of_true (by simp)) ?_
    refine J.skip ?_
    refine J.blk ?_
    refine J.region ?_
    refine O.p (Pu.move rfl) rfl ?_
    refine O.p (Pu.add' rfl rfl (by first | omega | (simp only [List.length_append, List.length_cons, List.length_nil, List.length_set]; omega))) rfl ?_
    refine O.p (Pu.assign rfl) rfl ?_
    refine O.nil ?_
    exact J.lp (k + 1) (show (k + 1) ≤ l.length from (by omega)) (show l.length - (k + 1) < l.length - k from (by first | omega | (simp only [List.length_append, List.length_cons, List.length_nil, List.length_set]; omega))) ⟨rfl, rfl, (congrArg (fun z => some (Value.int .i64 z)) (by first | rfl | omega : ((k : Int) + 1 : Int) = ((k + 1) : Int))), trivial⟩ [] (by decide) rfl
  ·
    have p5 := of_decide_eq_false h2
    refine O.gskip (t := 15) rfl rfl (no_bool (by rw [h2]; decide)) rfl rfl ?_
    refine O.gskip (t := 15) rfl rfl (no_bool (by rw [h2]; decide)) rfl rfl ?_
    refine O.gskip (t := 15) rfl rfl (no_bool (by rw [h2]; decide)) rfl rfl ?_
    refine O.gskip (t := 15) rfl rfl (no_bool (by rw [h2]; decide)) rfl rfl ?_
    refine O.p (Pu.pickF rfl h2 rfl) rfl ?_
    refine O.nil ?_
    refine J.condF rfl rfl ?_
    refine J.exit _ rfl ?_
    refine J.seq ?_
    refine J.region ?_
    refine O.p (Pu.assign rfl) rfl ?_
    refine O.nil ?_
    exact J.ret (Fin.ret (rs := [.tmp 4]) rfl [_] ⟨rfl, trivial⟩ [] (by decide) [] rfl ⟨rfl, rfl⟩)

theorem b_WriteString (b : Nat) (pv V : Value) (l s : List UInt8) (hp : pv = .pointer none ∨ pv = .pointer (some ⟨b, 0, none⟩)) (hl : l.length + s.length ≤ 1000000000) : Tri Tryd.prog 85 #[.pointer (some ⟨b, 0, none⟩), str s] [] [var b [pv, V] 115, row V 5 1 (l.map encB)] (fun v L' => ∃ V', v = .tuple #[.int .i64 s.length, .nilIface] ∧ L' = [var b [.pointer (some ⟨b, 0, none⟩), V'] 115, row V' 5 1 ((l ++ s).map encB)]) := by
  rcases hp with rfl | rfl
  · exact b_WriteString_fresh b V l s hl
  · exact b_WriteString_used b V l s hl
theorem b_String (b : Nat) (pv V : Value) (l : List UInt8) (h : (l = [] ∧ V = .slice none 0 0) ∨ l ≠ []) : Tri Tryd.prog 86 #[.pointer (some ⟨b, 0, none⟩)] [] [var b [pv, V] 115, row V 5 1 (l.map encB)] (fun v L' => v = str l ∧ L' = []) := by
  rcases h with ⟨rfl, rfl⟩ | h
  · exact b_String_none b pv
  · exact b_String_some b pv V l h

set_option maxRecDepth 100000 in
theorem tc_Text (lv : Value) (l : List Ev) (hl : l.length ≤ 1000) (hI : Tc.EvsI l) : Tri Tryd.prog 20 #[lv] [libW, var 0 (Tc.kinds.map vS) 111, rd lv 7 (l.map Ev.cells)] [] (fun v L' => v = .tuple #[str (Tc.text l).1, .int .i64 (Tc.text l).2] ∧ L' = []) := by
  refine Tri.enter (args := [lv]) (body := _) 28 Tryd.func20 rfl Tryd.ntmps20 rfl ?_
  intro w0
  refine J.seq ?_
  refine J.region ?_
  refine O.p (Pu.assign rfl) rfl ?_
  refine O.p (Pu.assign rfl) rfl ?_
  refine O.nil ?_
  refine J.seq ?_
  refine J.region ?_
  refine O.l (Lo.alloc [Value.pointer none, Value.slice none 0 0] (by exact Tryd.zeroValue115) rfl) rfl ?_
  rintro _ _ ⟨g1, rfl, rfl⟩
  refine O.nil ?_
  refine J.seq ?_
  refine J.seq ?_
  refine J.region ?_
  refine O.p (Pu.move rfl) rfl ?_
  refine O.q (Qt.lenM Tryd.runUnderlying35 rfl (Src.ro 2 rfl)) rfl ?_
  refine O.p (Pu.move rfl) rfl ?_
  refine O.nil ?_
  refine J.block ?_
  refine J.nilRow 5 1 ?_
  refine J.loop (X := Nat × Value × Value × List UInt8) (fun ξ => ξ.1 ≤ l.length ∧ Tc.good l ξ.1 ∧ ξ.2.2.2 = Tc.textK l ξ.1 ∧ (ξ.2.1 = Value.pointer none ∨ ξ.2.1 = Value.pointer (some ⟨g1, 0, none⟩)) ∧ ((ξ.2.2.2 = [] ∧ ξ.2.2.1 = Value.slice none 0 0) ∨ ξ.2.2.2 ≠ [])) (fun ξ => [(4, .pointer (some ⟨g1, 0, none⟩)), (9, lv), (10, .int .i64 (l.length : Int)), (11, .int .i64 (ξ.1 : Int))]) (fun ξ => [var g1 [ξ.2.1, ξ.2.2.1] 115, row ξ.2.2.1 5 1 (ξ.2.2.2.map encB)]) (fun ξ => l.length - ξ.1) ⟨0, Value.pointer none, Value.slice none 0 0, ([] : List UInt8)⟩ (show 0 ≤ l.length ∧ Tc.good l 0 ∧ ([] : List UInt8) = Tc.textK l 0 ∧ ((Value.pointer none) = Value.pointer none ∨ (Value.pointer none) = Value.pointer (some ⟨g1, 0, none⟩)) ∧ ((([] : List UInt8) = [] ∧ (Value.slice none 0 0) = Value.slice none 0 0) ∨ ([] : List UInt8) ≠ []) from ⟨by omega, Tc.good_zero, rfl, .inl rfl, .inl ⟨rfl, rfl⟩⟩) ⟨rfl, rfl, rfl, (congrArg (fun z => some (Value.int .i64 z)) (by first | rfl | omega : (0 : Int) = (0 : Int))), trivial⟩ [1, 0] (by decide) rfl ?_
  rintro ⟨k, pv, V, t⟩ hq2
  obtain ⟨hk, hg, ht, hp, hV⟩ : k ≤ l.length ∧ Tc.good l k ∧ t = Tc.textK l k ∧ (pv = Value.pointer none ∨ pv = Value.pointer (some ⟨g1, 0, none⟩)) ∧ ((t = [] ∧ V = Value.slice none 0 0) ∨ t ≠ []) := hq2
  show J _ _ [(4, .pointer (some ⟨g1, 0, none⟩)), (9, lv), (10, .int .i64 (l.length : Int)), (11, .int .i64 (k : Int))] [var g1 [pv, V] 115, row V 5 1 (t.map encB)]
  refine J.seq ?_
  refine J.region ?_
  refine O.p (Pu.lss rfl rfl) rfl ?_
  refine O.nil ?_
  refine J.seq ?_
  refine J.cond rfl (fun h3 => ?_) (fun h3 => ?_)
  ·
    have p4 := of_decide_eq_true h3
    refine J.skip ?_
    refine J.seq ?_
    refine J.block ?_
    refine J.seq ?_
    refine J.region ?_
    obtain ⟨e5, he5⟩ : ∃ x_, l[k]? = some x_ := ⟨_, List.getElem?_eq_getElem (by first | omega | (simp only [List.length_append, List.length_cons, List.length_nil, List.length_set]; omega))⟩
    refine O.q (Qt.idxM Tryd.runUnderlying35 Tryd.sizeOf23 rfl (Src.ro 2 rfl) rfl (by first | omega | (simp only [List.length_append, List.length_cons, List.length_nil, List.length_set]; omega)) (by first | omega | (simp only [List.length_append, List.length_cons, List.length_nil, List.length_set]; omega))) rfl ?_
    refine O.q (Qt.ld rfl (Cel.eltM (Src.ro 2 rfl) he5) (o := (voff lv + k * 7)) (off := 0) (by omega) (Cut.agg [.int .i64 e5.kind, .int .i64 e5.tick, .int .i64 e5.s, .int .i64 e5.id, .int .i64 e5.code, .int .i64 e5.a, .int .i64 e5.b] Tryd.isAgg23 Tryd.sizeOf23 rfl rfl)) rfl ?_
    refine O.l (Lo.alloc [.int .i64 0, .int .i64 0, .int .i64 0, .int .i64 0, .int .i64 0, .int .i64 0, .int .i64 0] (by exact Tryd.zeroValue23) rfl) rfl ?_
    rintro _ _ ⟨g6, rfl, rfl⟩
    refine O.l0 (Lo.store 0 (vs := [.int .i64 e5.kind, .int .i64 e5.tick, .int .i64 e5.s, .int .i64 e5.id, .int .i64 e5.code, .int .i64 e5.a, .int .i64 e5.b]) [.int .i64 e5.kind, .int .i64 e5.tick, .int .i64 e5.s, .int .i64 e5.id, .int .i64 e5.code, .int .i64 e5.a, .int .i64 e5.b] rfl rfl rfl (by exact Tryd.sizeOf23) rfl rfl rfl rfl rfl) ?_
    rintro _ _ rfl
    refine O.nil ?_
    refine J.seq ?_
    refine J.region ?_
    refine O.q (Qt.ld rfl (Cel.var 0 rfl) (o := 0) (off := 0) rfl (Cut.agg [.int .i64 e5.kind, .int .i64 e5.tick, .int .i64 e5.s, .int .i64 e5.id, .int .i64 e5.code, .int .i64 e5.a, .int .i64 e5.b] Tryd.isAgg23 Tryd.sizeOf23 rfl rfl)) rfl ?_
    refine O.l (Lo.call [.agg #[.int .i64 e5.kind, .int .i64 e5.tick, .int .i64 e5.s, .int .i64 e5.id, .int .i64 e5.code, .int .i64 e5.a, .int .i64 e5.b]] (by exact Tryd.call14) rfl (tc_Line e5 (by exact hI.at (by assumption))) [] [0, 1, 2] (by decide) rfl _ rfl (RoOk.ro 0 rfl [] rfl (RoOk.ro 1 rfl [] rfl RoOk.nil))) rfl ?_
    rintro _ _ ⟨_, ⟨rfl, rfl⟩, rfl⟩
    refine O.p (Pu.move rfl) rfl ?_
    refine O.p (Pu.extract rfl rfl) rfl ?_
    refine O.p (Pu.extract rfl rfl) rfl ?_
    refine O.p (Pu.assign rfl) rfl ?_
    refine O.p (Pu.assign rfl) rfl ?_
    refine O.nil ?_
    refine J.seq ?_
    refine J.seq ?_
    refine J.region ?_
    refine O.p (Pu.move rfl) rfl ?_
    refine O.p (Pu.neq rfl rfl) rfl ?_
    refine O.nil ?_
    refine J.cond rfl (fun h8 => ?_) (fun h8 => ?_)
    ·
      have p9 := of_decide_eq_true h8
      refine J.seq ?_
      refine J.region ?_
      refine O.p (Pu.move rfl) rfl ?_
      refine O.p (Pu.assign rfl) rfl ?_
      refine O.p (Pu.assign rfl) rfl ?_
      refine O.nil ?_
      exact J.ret (Fin.ret (rs := [.tmp 2, .tmp 3]) rfl [_, _] ⟨rfl, rfl, trivial⟩ [] (by decide) [] rfl ⟨(by rw [Tc.text_no (by assumption) (by assumption)]; rfl), rfl⟩)
    ·
      have p10 := of_decide_eq_false h8
      refine J.skip ?_
      refine J.seq ?_
      refine J.region ?_
      refine O.p (Pu.move rfl) rfl ?_
      refine O.l (Lo.call [.pointer (some ⟨g1, 0, none⟩), str ((Tc.line e5).1)] (by exact Tryd.call85) rfl (b_WriteString g1 pv V t ((Tc.line e5).1) hp (by first | (have h1_ := Tc.textK_len hI k; rw [← ht] at h1_; have h2_ := Tc.line_len (hI.at (by assumption)); omega) | (have h1_ := Tc.textK_len hI k; rw [← ht] at h1_; have h2_ := Tc.line_len (hI.at (by assumption)); simp only [List.length_append, List.length_cons, List.length_nil]; omega))) [1, 2] [0] (by decide) rfl _ rfl RoOk.nil) rfl ?_
      rintro _ _ ⟨_, ⟨W11, rfl, rfl⟩, rfl⟩
      refine O.nil ?_
      refine J.region ?_
      refine O.l (Lo.call [.pointer (some ⟨g1, 0, none⟩), str ([10])] (by exact Tryd.call85) rfl (b_WriteString g1 (.pointer (some ⟨g1, 0, none⟩)) W11 (t ++ ((Tc.line e5).1)) ([10]) (.inr rfl) (by first | (have h1_ := Tc.textK_len hI k; rw [← ht] at h1_; have h2_ := Tc.line_len (hI.at (by assumption)); omega) | (have h1_ := Tc.textK_len hI k; rw [← ht] at h1_; have h2_ := Tc.line_len (hI.at (by assumption)); simp only [List.length_append, List.length_cons, List.length_nil]; omega))) [0, 1] [2] (by decide) rfl _ rfl RoOk.nil) rfl ?_
      rintro _ _ ⟨_, ⟨W13, rfl, rfl⟩, rfl⟩
      refine O.nil ?_
      refine J.blk ?_
      refine J.region ?_
      refine O.p (Pu.add' rfl rfl (by first | omega | (simp only [List.length_append, List.length_cons, List.length_nil, List.length_set]; omega))) rfl ?_
      refine O.p (Pu.move rfl) rfl ?_
      refine O.nil ?_
      exact J.lp ⟨k + 1, Value.pointer (some ⟨g1, 0, none⟩), W13, (t ++ ((Tc.line e5).1)) ++ ([10])⟩ (show (k + 1) ≤ l.length ∧ Tc.good l (k + 1) ∧ ((t ++ ((Tc.line e5).1)) ++ ([10])) = Tc.textK l (k + 1) ∧ ((Value.pointer (some ⟨g1, 0, none⟩)) = Value.pointer none ∨ (Value.pointer (some ⟨g1, 0, none⟩)) = Value.pointer (some ⟨g1, 0, none⟩)) ∧ ((((t ++ ((Tc.line e5).1)) ++ ([10])) = [] ∧ W13 = Value.slice none 0 0) ∨ ((t ++ ((Tc.line e5).1)) ++ ([10])) ≠ []) from ⟨by omega, Tc.good_next hg (by assumption) (by omega), (by rw [ht]; exact (Tc.textK_next (by assumption)).symm), .inr rfl, .inr (by simp)⟩) (show l.length - (k + 1) < l.length - k from (by first | omega | (simp only [List.length_append, List.length_cons, List.length_nil, List.length_set]; omega))) ⟨rfl, rfl, rfl, (congrArg (fun z => some (Value.int .i64 z)) (by first | rfl | omega : ((k : Int) + 1 : Int) = ((k + 1) : Int))), trivial⟩ [0, 1] (by decide) rfl
  ·
    have p15 := of_decide_eq_false h3
    refine J.exit _ rfl ?_
    refine J.seq ?_
    refine J.region ?_
    refine O.l (Lo.call [.pointer (some ⟨g1, 0, none⟩)] (by exact Tryd.call86) rfl (b_String g1 pv V t hV) [0, 1] [] (by decide) rfl _ rfl RoOk.nil) rfl ?_
    rintro _ _ ⟨_, ⟨rfl, rfl⟩, rfl⟩
    refine O.p (Pu.assign rfl) rfl ?_
    refine O.p (Pu.assign rfl) rfl ?_
    refine O.nil ?_
    exact J.ret (Fin.ret (rs := [.tmp 2, .tmp 3]) rfl [_, _] ⟨rfl, rfl, trivial⟩ [] (by decide) [] rfl ⟨(by rw [Tc.text_yes hg (by omega), ht]; rfl), rfl⟩)

set_option maxRecDepth 100000 in
theorem r39_Text (lv : Value) (l : List Ev) (hl : l.length ≤ 1000) (hI : Tc.EvsI l) : Tri Tryd.prog 26 #[lv] [rd lv 7 (l.map Ev.cells)] [] (fun v L' => v = .tuple #[str (Tc.text l).1, .int .i64 (Tc.text l).2] ∧ L' = []) := by
  refine Tri.enter (args := [lv]) (body := _) 30 Tryd.func26 rfl Tryd.ntmps26 rfl ?_
  intro w0
  refine J.seq ?_
  refine J.region ?_
  refine O.p (Pu.assign rfl) rfl ?_
  refine O.p (Pu.assign rfl) rfl ?_
  refine O.nil ?_
  refine J.seq ?_
  refine J.region ?_
  refine O.p (Pu.assign rfl) rfl ?_
  refine O.nil ?_
  refine J.seq ?_
  refine J.seq ?_
  refine J.region ?_
  refine O.p (Pu.assign rfl) rfl ?_
  refine O.nil ?_
  refine J.block ?_
  refine J.loop (X := Nat × List UInt8) (fun ξ => ξ.1 ≤ l.length ∧ Tc.good l ξ.1 ∧ ξ.2 = Tc.textK l ξ.1) (fun ξ => [(0, lv), (4, str ξ.2), (5, .int .i64 (ξ.1 : Int))]) (fun ξ => []) (fun ξ => l.length - ξ.1) ⟨0, ([] : List UInt8)⟩ (show 0 ≤ l.length ∧ Tc.good l 0 ∧ ([] : List UInt8) = Tc.textK l 0 from ⟨by omega, Tc.good_zero, rfl⟩) ⟨rfl, rfl, (congrArg (fun z => some (Value.int .i64 z)) (by first | rfl | omega : (0 : Int) = (0 : Int))), trivial⟩ [] (by decide) rfl ?_
  rintro ⟨k, t⟩ hq1
  obtain ⟨hk, hg, ht⟩ : k ≤ l.length ∧ Tc.good l k ∧ t = Tc.textK l k := hq1
  show J _ _ [(0, lv), (4, str t), (5, .int .i64 (k : Int))] []
  refine J.seq ?_
  refine J.seq ?_
  refine J.region ?_
  refine O.p (Pu.move rfl) rfl ?_
  refine O.p (Pu.move rfl) rfl ?_
  refine O.q (Qt.lenM Tryd.runUnderlying35 rfl (Src.ro 0 rfl)) rfl ?_
  refine O.p (Pu.lss rfl rfl) rfl ?_
  refine O.nil ?_
  refine J.cond rfl (fun h2 => ?_) (fun h2 => ?_)
  ·
    have p3 := of_decide_eq_true h2
    refine J.skip ?_
    refine J.seq ?_
    refine J.block ?_
    refine J.seq ?_
    refine J.region ?_
    refine O.p (Pu.move rfl) rfl ?_
    refine O.p (Pu.move rfl) rfl ?_
    obtain ⟨e4, he4⟩ : ∃ x_, l[k]? = some x_ := ⟨_, List.getElem?_eq_getElem (by first | omega | (simp only [List.length_append, List.length_cons, List.length_nil, List.length_set]; omega))⟩
    refine O.q (Qt.idxM Tryd.runUnderlying35 Tryd.sizeOf23 rfl (Src.ro 0 rfl) rfl (by first | omega | (simp only [List.length_append, List.length_cons, List.length_nil, List.length_set]; omega)) (by first | omega | (simp only [List.length_append, List.length_cons, List.length_nil, List.length_set]; omega))) rfl ?_
    refine O.q (Qt.ld rfl (Cel.eltM (Src.ro 0 rfl) he4) (o := (voff lv + k * 7)) (off := 0) (by omega) (Cut.agg [.int .i64 e4.kind, .int .i64 e4.tick, .int .i64 e4.s, .int .i64 e4.id, .int .i64 e4.code, .int .i64 e4.a, .int .i64 e4.b] Tryd.isAgg23 Tryd.sizeOf23 rfl rfl)) rfl ?_
    refine O.l (Lo.call [.agg #[.int .i64 e4.kind, .int .i64 e4.tick, .int .i64 e4.s, .int .i64 e4.id, .int .i64 e4.code, .int .i64 e4.a, .int .i64 e4.b]] (by exact Tryd.call15) rfl (r39_Line e4 (by exact hI.at (by assumption))) [] [] (by decide) rfl _ rfl RoOk.nil) rfl ?_
    rintro _ _ ⟨_, ⟨rfl, rfl⟩, rfl⟩
    refine O.p (Pu.move rfl) rfl ?_
    refine O.p (Pu.extract rfl rfl) rfl ?_
    refine O.p (Pu.extract rfl rfl) rfl ?_
    refine O.p (Pu.assign rfl) rfl ?_
    refine O.p (Pu.assign rfl) rfl ?_
    refine O.nil ?_
    refine J.seq ?_
    refine J.seq ?_
    refine J.region ?_
    refine O.p (Pu.move rfl) rfl ?_
    refine O.p (Pu.neq rfl rfl) rfl ?_
    refine O.nil ?_
    refine J.cond rfl (fun h6 => ?_) (fun h6 => ?_)
    ·
      have p7 := of_decide_eq_true h6
      refine J.seq ?_
      refine J.region ?_
      refine O.p (Pu.move rfl) rfl ?_
      refine O.p (Pu.assign rfl) rfl ?_
      refine O.p (Pu.assign rfl) rfl ?_
      refine O.nil ?_
      exact J.ret (Fin.ret (rs := [.tmp 2, .tmp 3]) rfl [_, _] ⟨rfl, rfl, trivial⟩ [] (by decide) [] rfl ⟨(by rw [Tc.text_no (by assumption) (by assumption)]; rfl), rfl⟩)
    ·
      have p8 := of_decide_eq_false h6
      refine J.skip ?_
      refine J.region ?_
      refine O.p (Pu.move rfl) rfl ?_
      refine O.p (Pu.move rfl) rfl ?_
      refine O.p (Pu.sAdd rfl rfl (by have h1_ := Tc.textK_len hI k; rw [← ht] at h1_; have h2_ := Tc.line_len (hI.at (by assumption)); first | omega | (simp only [List.length_append, List.length_cons, List.length_nil]; omega))) rfl ?_
      refine O.p (Pu.sAdd rfl rfl (by have h1_ := Tc.textK_len hI k; rw [← ht] at h1_; have h2_ := Tc.line_len (hI.at (by assumption)); first | omega | (simp only [List.length_append, List.length_cons, List.length_nil]; omega))) rfl ?_
      refine O.p (Pu.assign rfl) rfl ?_
      refine O.nil ?_
      refine J.blk ?_
      refine J.region ?_
      refine O.p (Pu.move rfl) rfl ?_
      refine O.p (Pu.add' rfl rfl (by first | omega | (simp only [List.length_append, List.length_cons, List.length_nil, List.length_set]; omega))) rfl ?_
      refine O.p (Pu.assign rfl) rfl ?_
      refine O.nil ?_
      exact J.lp ⟨k + 1, (t ++ ((Tc.line e4).1)) ++ ([10])⟩ (show (k + 1) ≤ l.length ∧ Tc.good l (k + 1) ∧ ((t ++ ((Tc.line e4).1)) ++ ([10])) = Tc.textK l (k + 1) from ⟨by omega, Tc.good_next hg (by assumption) (by omega), (by rw [ht]; exact (Tc.textK_next (by assumption)).symm)⟩) (show l.length - (k + 1) < l.length - k from (by first | omega | (simp only [List.length_append, List.length_cons, List.length_nil, List.length_set]; omega))) ⟨rfl, rfl, (congrArg (fun z => some (Value.int .i64 z)) (by first | rfl | omega : ((k : Int) + 1 : Int) = ((k + 1) : Int))), trivial⟩ [] (by decide) rfl
  ·
    have p9 := of_decide_eq_false h2
    refine J.exit _ rfl ?_
    refine J.seq ?_
    refine J.region ?_
    refine O.p (Pu.move rfl) rfl ?_
    refine O.p (Pu.assign rfl) rfl ?_
    refine O.p (Pu.assign rfl) rfl ?_
    refine O.nil ?_
    exact J.ret (Fin.ret (rs := [.tmp 2, .tmp 3]) rfl [_, _] ⟨rfl, rfl, trivial⟩ [] (by decide) [] rfl ⟨(by rw [Tc.text_yes hg (by omega), ht]; rfl), rfl⟩)

end Go.Proofs.YtnfkoohgdcocdaaDoor
