/-
  Walks, printed by a program of mine (lk.py): each function meets its contract.
-/
import Derived.KernelRfl
import Derived.Test.YtghhjhjpccipaaaLD12
import Derived.Test.YtghhjhjpccipaaaLk14
namespace Go.Proofs.Ytghhjhjpccipaaa
open Go Go.LK
set_option linter.unusedSimpArgs false

set_option maxRecDepth 100000 in
set_option maxHeartbeats 2000000 in
theorem law41_ledgerTells (fv : Value) (l : List Ft) (x : Ft) : Tri Try.prog 6 #[fv, .agg #[.int .i64 x.s, .int .i64 x.id, .int .i64 x.state, .int .i64 x.level, .int .i64 x.code, .int .i64 x.came, .int .i64 x.began, .int .i64 x.ended]] [rd fv 8 (l.map Ft.cells)] [] (fun v L' => v = .bool true ∧ L' = []) := by
  refine Tri.enter (args := [fv, .agg #[.int .i64 x.s, .int .i64 x.id, .int .i64 x.state, .int .i64 x.level, .int .i64 x.code, .int .i64 x.came, .int .i64 x.began, .int .i64 x.ended]]) (body := _) 132 Try.func6 rfl Try.ntmps6 rfl ?_
  intro w0
  refine J.seq ?_
  refine J.region ?_
  refine O.l (Lo.box [.int .i64 x.s, .int .i64 x.id, .int .i64 x.state, .int .i64 x.level, .int .i64 x.code, .int .i64 x.came, .int .i64 x.began, .int .i64 x.ended] rfl rfl) rfl ?_
  rintro _ _ ⟨g1, rfl, rfl⟩
  refine O.p (Pu.assign rfl) rfl ?_
  refine O.nil ?_
  refine J.seq ?_
  refine J.seq ?_
  refine J.region ?_
  refine O.p (Pu.move rfl) rfl ?_
  refine O.q (Qt.lenM Try.runUnderlying55 rfl (Src.ro 0 rfl)) rfl ?_
  refine O.p (Pu.gtr rfl rfl) rfl ?_
  refine O.nil ?_
  refine J.cond rfl (fun h2 => ?_) (fun h2 => ?_)
  ·
    have p3 := of_decide_eq_true h2
    refine J.seq ?_
    refine J.region ?_
    refine O.l (Lo.call [] (by exact Try.call27) rfl law41_awake [] [0] (by decide) rfl _ rfl RoOk.nil) rfl ?_
    rintro _ _ ⟨_, ⟨rfl, rfl⟩, rfl⟩
    refine O.p (Pu.assign rfl) rfl ?_
    refine O.nil ?_
    exact J.ret (Fin.ret (rs := [.tmp 4]) rfl [_] ⟨rfl, trivial⟩ [] (by decide) [] rfl ⟨rfl, rfl⟩)
  ·
    have p5 := of_decide_eq_false h2
    refine J.skip ?_
    refine J.seq ?_
    refine J.region ?_
    refine O.q (Qt.ld rfl (Cel.var 0 rfl) (o := 0) (off := 0) rfl (Cut.agg [.int .i64 x.s, .int .i64 x.id, .int .i64 x.state, .int .i64 x.level, .int .i64 x.code, .int .i64 x.came, .int .i64 x.began, .int .i64 x.ended] Try.isAgg61 Try.sizeOf61 rfl rfl)) rfl ?_
    refine O.l (Lo.call [.agg #[.int .i64 x.s, .int .i64 x.id, .int .i64 x.state, .int .i64 x.level, .int .i64 x.code, .int .i64 x.came, .int .i64 x.began, .int .i64 x.ended]] (by exact Try.call39) rfl (ld_Waited x) [] [0] (by decide) rfl _ rfl RoOk.nil) rfl ?_
    rintro _ _ ⟨_, ⟨rfl, rfl⟩, rfl⟩
    refine O.p (Pu.move rfl) rfl ?_
    refine O.p (Pu.extract rfl rfl) rfl ?_
    refine O.p (Pu.extract rfl rfl) rfl ?_
    refine O.p (Pu.assign rfl) rfl ?_
    refine O.p (Pu.assign rfl) rfl ?_
    refine O.nil ?_
    refine J.seq ?_
    refine J.cutK (X := Unit) (fun ξ => True) (fun ξ => [(0, fv), (3, .pointer (some ⟨g1, 0, none⟩)), (4, .bool false), (5, .int .i64 ((Ld.waited x).1)), (6, .bool ((Ld.waited x).2)), (7, .bool (decide (x.state = 3) || decide (x.state = 4)))]) (fun ξ => [var g1 [.int .i64 x.s, .int .i64 x.id, .int .i64 x.state, .int .i64 x.level, .int .i64 x.code, .int .i64 x.came, .int .i64 x.began, .int .i64 x.ended] 61]) ?_ ?_
    ·
      rintro ⟨⟩ hq7
      clear hq7
      show J _ _ [(0, fv), (3, .pointer (some ⟨g1, 0, none⟩)), (4, .bool false), (5, .int .i64 ((Ld.waited x).1)), (6, .bool ((Ld.waited x).2)), (7, .bool (decide (x.state = 3) || decide (x.state = 4)))] [var g1 [.int .i64 x.s, .int .i64 x.id, .int .i64 x.state, .int .i64 x.level, .int .i64 x.code, .int .i64 x.came, .int .i64 x.began, .int .i64 x.ended] 61]
      refine J.seq ?_
      refine J.cutK (X := Unit) (fun ξ => True) (fun ξ => [(0, fv), (3, .pointer (some ⟨g1, 0, none⟩)), (4, .bool false), (5, .int .i64 ((Ld.waited x).1)), (6, .bool ((Ld.waited x).2)), (8, .bool ((Ld.waited x).2))]) (fun ξ => [var g1 [.int .i64 x.s, .int .i64 x.id, .int .i64 x.state, .int .i64 x.level, .int .i64 x.code, .int .i64 x.came, .int .i64 x.began, .int .i64 x.ended] 61]) ?_ ?_
      ·
        rintro ⟨⟩ hq8
        clear hq8
        show J _ _ [(0, fv), (3, .pointer (some ⟨g1, 0, none⟩)), (4, .bool false), (5, .int .i64 ((Ld.waited x).1)), (6, .bool ((Ld.waited x).2)), (8, .bool ((Ld.waited x).2))] [var g1 [.int .i64 x.s, .int .i64 x.id, .int .i64 x.state, .int .i64 x.level, .int .i64 x.code, .int .i64 x.came, .int .i64 x.began, .int .i64 x.ended] 61]
        refine J.seq ?_
        refine J.region ?_
        refine O.p (Pu.fieldAddr (off' := 0) Try.runUnderlying61 rfl Try.sizeOf3 rfl rfl rfl) rfl ?_
        refine O.q (Qt.ld rfl (Cel.var 0 rfl) (o := 0) (off := 0) rfl (Cut.one Try.isAgg3 rfl)) rfl ?_
        refine O.p (Pu.fieldAddr (off' := 1) Try.runUnderlying61 rfl Try.sizeOf3 rfl rfl rfl) rfl ?_
        refine O.q (Qt.ld rfl (Cel.var 0 rfl) (o := 0) (off := 1) rfl (Cut.one Try.isAgg3 rfl)) rfl ?_
        refine O.p (Pu.move rfl) rfl ?_
        refine O.l (Lo.call [.int .i64 x.s, .int .i64 x.id, fv] (by exact Try.call30) rfl (ld_Last x.s x.id fv l (by first | omega | (have hrl := Ld.read_len l; omega) | (have hrl := Ld.read_len l; have hol := Ld.opened_len (Ld.read l).1; omega) | (have hol := Ld.opened_len l; omega) | (rw [Ld.tally_len]; omega))) [] [0] (by decide) rfl _ rfl (RoOk.ro 0 rfl [] rfl RoOk.nil)) rfl ?_
        rintro _ _ ⟨_, ⟨rfl, rfl⟩, rfl⟩
        refine O.p (Pu.move rfl) rfl ?_
        refine O.p (Pu.extract rfl rfl) rfl ?_
        refine O.p (Pu.extract rfl rfl) rfl ?_
        refine O.l (Lo.alloc [.int .i64 0, .int .i64 0, .int .i64 0, .int .i64 0, .int .i64 0, .int .i64 0, .int .i64 0, .int .i64 0] (by exact Try.zeroValue61) rfl) rfl ?_
        rintro _ _ ⟨g10, rfl, rfl⟩
        refine O.l0 (Lo.store 0 (vs := [.int .i64 (((Ld.last l x.s x.id).1).s), .int .i64 (((Ld.last l x.s x.id).1).id), .int .i64 (((Ld.last l x.s x.id).1).state), .int .i64 (((Ld.last l x.s x.id).1).level), .int .i64 (((Ld.last l x.s x.id).1).code), .int .i64 (((Ld.last l x.s x.id).1).came), .int .i64 (((Ld.last l x.s x.id).1).began), .int .i64 (((Ld.last l x.s x.id).1).ended)]) [.int .i64 (((Ld.last l x.s x.id).1).s), .int .i64 (((Ld.last l x.s x.id).1).id), .int .i64 (((Ld.last l x.s x.id).1).state), .int .i64 (((Ld.last l x.s x.id).1).level), .int .i64 (((Ld.last l x.s x.id).1).code), .int .i64 (((Ld.last l x.s x.id).1).came), .int .i64 (((Ld.last l x.s x.id).1).began), .int .i64 (((Ld.last l x.s x.id).1).ended)] rfl rfl rfl (by exact Try.sizeOf61) rfl rfl rfl rfl rfl) ?_
        rintro _ _ rfl
        refine O.p (Pu.assign rfl) rfl ?_
        refine O.nil ?_
        refine J.seq ?_
        refine J.region ?_
        refine O.p (Pu.fieldAddr (off' := 0) Try.runUnderlying61 rfl Try.sizeOf3 rfl rfl rfl) rfl ?_
        refine O.q (Qt.ld rfl (Cel.var 1 rfl) (o := 0) (off := 0) rfl (Cut.one Try.isAgg3 rfl)) rfl ?_
        refine O.p (Pu.fieldAddr (off' := 1) Try.runUnderlying61 rfl Try.sizeOf3 rfl rfl rfl) rfl ?_
        refine O.q (Qt.ld rfl (Cel.var 1 rfl) (o := 0) (off := 1) rfl (Cut.one Try.isAgg3 rfl)) rfl ?_
        refine O.p (Pu.move rfl) rfl ?_
        refine O.l (Lo.call [.int .i64 x.s, .int .i64 x.id, fv] (by exact Try.call31) rfl (r41_Last x.s x.id fv l (by first | omega | (have hrl := Ld.read_len l; omega) | (have hrl := Ld.read_len l; have hol := Ld.opened_len (Ld.read l).1; omega) | (have hol := Ld.opened_len l; omega) | (rw [Ld.tally_len]; omega))) [] [0, 1] (by decide) rfl _ rfl (RoOk.ro 0 rfl [] rfl RoOk.nil)) rfl ?_
        rintro _ _ ⟨_, ⟨rfl, rfl⟩, rfl⟩
        refine O.p (Pu.move rfl) rfl ?_
        refine O.p (Pu.extract rfl rfl) rfl ?_
        refine O.p (Pu.extract rfl rfl) rfl ?_
        refine O.l (Lo.alloc [.int .i64 0, .int .i64 0, .int .i64 0, .int .i64 0, .int .i64 0, .int .i64 0, .int .i64 0, .int .i64 0] (by exact Try.zeroValue61) rfl) rfl ?_
        rintro _ _ ⟨g12, rfl, rfl⟩
        refine O.l0 (Lo.store 0 (vs := [.int .i64 (((Ld.last l x.s x.id).1).s), .int .i64 (((Ld.last l x.s x.id).1).id), .int .i64 (((Ld.last l x.s x.id).1).state), .int .i64 (((Ld.last l x.s x.id).1).level), .int .i64 (((Ld.last l x.s x.id).1).code), .int .i64 (((Ld.last l x.s x.id).1).came), .int .i64 (((Ld.last l x.s x.id).1).began), .int .i64 (((Ld.last l x.s x.id).1).ended)]) [.int .i64 (((Ld.last l x.s x.id).1).s), .int .i64 (((Ld.last l x.s x.id).1).id), .int .i64 (((Ld.last l x.s x.id).1).state), .int .i64 (((Ld.last l x.s x.id).1).level), .int .i64 (((Ld.last l x.s x.id).1).code), .int .i64 (((Ld.last l x.s x.id).1).came), .int .i64 (((Ld.last l x.s x.id).1).began), .int .i64 (((Ld.last l x.s x.id).1).ended)] rfl rfl rfl (by exact Try.sizeOf61) rfl rfl rfl rfl rfl) ?_
        rintro _ _ rfl
        refine O.p (Pu.assign rfl) rfl ?_
        refine O.nil ?_
        refine J.seq ?_
        refine J.cutK (X := Value) (fun ξ => True) (fun ξ => [(0, fv), (3, .pointer (some ⟨g1, 0, none⟩)), (4, .bool false), (5, .int .i64 ((Ld.waited x).1)), (6, .bool ((Ld.waited x).2)), (8, .bool ((Ld.waited x).2)), (9, .pointer (some ⟨g10, 0, none⟩)), (10, .bool ((Ld.last l x.s x.id).2)), (11, .pointer (some ⟨g12, 0, none⟩)), (12, .bool ((Ld.last l x.s x.id).2)), (13, ξ)]) (fun ξ => [var g12 [.int .i64 (((Ld.last l x.s x.id).1).s), .int .i64 (((Ld.last l x.s x.id).1).id), .int .i64 (((Ld.last l x.s x.id).1).state), .int .i64 (((Ld.last l x.s x.id).1).level), .int .i64 (((Ld.last l x.s x.id).1).code), .int .i64 (((Ld.last l x.s x.id).1).came), .int .i64 (((Ld.last l x.s x.id).1).began), .int .i64 (((Ld.last l x.s x.id).1).ended)] 61, var g10 [.int .i64 (((Ld.last l x.s x.id).1).s), .int .i64 (((Ld.last l x.s x.id).1).id), .int .i64 (((Ld.last l x.s x.id).1).state), .int .i64 (((Ld.last l x.s x.id).1).level), .int .i64 (((Ld.last l x.s x.id).1).code), .int .i64 (((Ld.last l x.s x.id).1).came), .int .i64 (((Ld.last l x.s x.id).1).began), .int .i64 (((Ld.last l x.s x.id).1).ended)] 61, var g1 [.int .i64 x.s, .int .i64 x.id, .int .i64 x.state, .int .i64 x.level, .int .i64 x.code, .int .i64 x.came, .int .i64 x.began, .int .i64 x.ended] 61, row ξ 61 8 ((l ++ [x]).map Ft.cells)]) ?_ ?_
        ·
          rintro V hq13
          clear hq13
          show J _ _ [(0, fv), (3, .pointer (some ⟨g1, 0, none⟩)), (4, .bool false), (5, .int .i64 ((Ld.waited x).1)), (6, .bool ((Ld.waited x).2)), (8, .bool ((Ld.waited x).2)), (9, .pointer (some ⟨g10, 0, none⟩)), (10, .bool ((Ld.last l x.s x.id).2)), (11, .pointer (some ⟨g12, 0, none⟩)), (12, .bool ((Ld.last l x.s x.id).2)), (13, V)] [var g12 [.int .i64 (((Ld.last l x.s x.id).1).s), .int .i64 (((Ld.last l x.s x.id).1).id), .int .i64 (((Ld.last l x.s x.id).1).state), .int .i64 (((Ld.last l x.s x.id).1).level), .int .i64 (((Ld.last l x.s x.id).1).code), .int .i64 (((Ld.last l x.s x.id).1).came), .int .i64 (((Ld.last l x.s x.id).1).began), .int .i64 (((Ld.last l x.s x.id).1).ended)] 61, var g10 [.int .i64 (((Ld.last l x.s x.id).1).s), .int .i64 (((Ld.last l x.s x.id).1).id), .int .i64 (((Ld.last l x.s x.id).1).state), .int .i64 (((Ld.last l x.s x.id).1).level), .int .i64 (((Ld.last l x.s x.id).1).code), .int .i64 (((Ld.last l x.s x.id).1).came), .int .i64 (((Ld.last l x.s x.id).1).began), .int .i64 (((Ld.last l x.s x.id).1).ended)] 61, var g1 [.int .i64 x.s, .int .i64 x.id, .int .i64 x.state, .int .i64 x.level, .int .i64 x.code, .int .i64 x.came, .int .i64 x.began, .int .i64 x.ended] 61, row V 61 8 ((l ++ [x]).map Ft.cells)]
          refine J.seq ?_
          refine J.region ?_
          refine O.p (Pu.move rfl) rfl ?_
          refine O.p (Pu.move rfl) rfl ?_
          refine O.p (Pu.beql Try.underlying4 rfl rfl) rfl ?_
          refine O.p (Pu.move rfl) rfl ?_
          refine O.gq (t := 74) rfl rfl (by simp) rfl (Pu.qt (Pu.move rfl)) rfl ?_
          refine O.gq (t := 74) rfl rfl (by simp) rfl (Pu.qt (Pu.move rfl)) rfl ?_
          refine by_bool ((Ld.waited x).2) (fun h14 => ?_) (fun h14 => ?_)
          ·
            refine O.gq (t := 76) rfl rfl h14 rfl (Pu.qt (Pu.move rfl)) rfl ?_
            refine O.gq (t := 76) rfl rfl h14 rfl (Pu.qt (Pu.fieldAddr (off' := 6) Try.runUnderlying61 rfl Try.sizeOf3 rfl rfl rfl)) rfl ?_
            refine O.gq (t := 76) rfl rfl h14 rfl (Qt.ld rfl (Cel.var 2 rfl) (o := 0) (off := 6) rfl (Cut.one Try.isAgg3 rfl)) rfl ?_
            refine O.gq (t := 76) rfl rfl h14 rfl (Pu.qt (Pu.fieldAddr (off' := 5) Try.runUnderlying61 rfl Try.sizeOf3 rfl rfl rfl)) rfl ?_
            refine O.gq (t := 76) rfl rfl h14 rfl (Qt.ld rfl (Cel.var 2 rfl) (o := 0) (off := 5) rfl (Cut.one Try.isAgg3 rfl)) rfl ?_
            refine O.gq (t := 76) rfl rfl h14 rfl (Pu.qt (Pu.sub rfl rfl)) rfl ?_
            refine O.gq (t := 76) rfl rfl h14 rfl (Pu.qt (Pu.eql rfl rfl)) rfl ?_
            refine O.gq (t := 74) rfl rfl (by simp) rfl (Pu.qt (Pu.pickT rfl h14 rfl)) rfl ?_
            refine O.gq (t := 74) rfl rfl (by simp) rfl (Pu.qt (Pu.move rfl)) rfl ?_
            refine O.gskip (t := 85) rfl rfl (no_bool (by rw [(decide_eq_true (Ld.waited_yes (by assumption)))]; decide)) rfl rfl ?_
            refine O.gskip (t := 85) rfl rfl (no_bool (by rw [(decide_eq_true (Ld.waited_yes (by assumption)))]; decide)) rfl rfl ?_
            refine O.gskip (t := 85) rfl rfl (no_bool (by rw [(decide_eq_true (Ld.waited_yes (by assumption)))]; decide)) rfl rfl ?_
            refine O.gskip (t := 88) rfl rfl (no_undef _) rfl rfl ?_
            refine O.gskip (t := 88) rfl rfl (no_undef _) rfl rfl ?_
            refine O.gskip (t := 85) rfl rfl (no_bool (by rw [(decide_eq_true (Ld.waited_yes (by assumption)))]; decide)) rfl rfl ?_
            refine O.gq (t := 74) rfl rfl (by simp) rfl (Pu.qt (Pu.pickT rfl (decide_eq_true (Ld.waited_yes (by assumption))) rfl)) rfl ?_
            refine O.p (Pu.pickT rfl (by simp) rfl) rfl ?_
            refine O.p (Pu.move rfl) rfl ?_
            refine O.gq (t := 94) rfl rfl rfl rfl (Qt.ld rfl (Cel.var 1 rfl) (o := 0) (off := 0) rfl (Cut.agg [.int .i64 (((Ld.last l x.s x.id).1).s), .int .i64 (((Ld.last l x.s x.id).1).id), .int .i64 (((Ld.last l x.s x.id).1).state), .int .i64 (((Ld.last l x.s x.id).1).level), .int .i64 (((Ld.last l x.s x.id).1).code), .int .i64 (((Ld.last l x.s x.id).1).came), .int .i64 (((Ld.last l x.s x.id).1).began), .int .i64 (((Ld.last l x.s x.id).1).ended)] Try.isAgg61 Try.sizeOf61 rfl rfl)) rfl ?_
            refine O.gq (t := 94) rfl rfl rfl rfl (Qt.ld rfl (Cel.var 0 rfl) (o := 0) (off := 0) rfl (Cut.agg [.int .i64 (((Ld.last l x.s x.id).1).s), .int .i64 (((Ld.last l x.s x.id).1).id), .int .i64 (((Ld.last l x.s x.id).1).state), .int .i64 (((Ld.last l x.s x.id).1).level), .int .i64 (((Ld.last l x.s x.id).1).code), .int .i64 (((Ld.last l x.s x.id).1).came), .int .i64 (((Ld.last l x.s x.id).1).began), .int .i64 (((Ld.last l x.s x.id).1).ended)] Try.isAgg61 Try.sizeOf61 rfl rfl)) rfl ?_
            refine O.gq (t := 94) rfl rfl rfl rfl (Pu.qt (Pu.eqlI [((Ld.last l x.s x.id).1).s, ((Ld.last l x.s x.id).1).id, ((Ld.last l x.s x.id).1).state, ((Ld.last l x.s x.id).1).level, ((Ld.last l x.s x.id).1).code, ((Ld.last l x.s x.id).1).came, ((Ld.last l x.s x.id).1).began, ((Ld.last l x.s x.id).1).ended] [((Ld.last l x.s x.id).1).s, ((Ld.last l x.s x.id).1).id, ((Ld.last l x.s x.id).1).state, ((Ld.last l x.s x.id).1).level, ((Ld.last l x.s x.id).1).code, ((Ld.last l x.s x.id).1).came, ((Ld.last l x.s x.id).1).began, ((Ld.last l x.s x.id).1).ended] Try.underlying61 Try.stoodInHeld61 Try.eqGuardType61 (fint61 Try.underlying61) rfl rfl rfl rfl)) rfl ?_
            refine O.p (Pu.pickT rfl rfl rfl) rfl ?_
            refine O.p (Pu.move rfl) rfl ?_
            refine O.gq (t := 99) rfl rfl (by simp) rfl (Pu.qt (Pu.move rfl)) rfl ?_
            refine O.gq (t := 99) rfl rfl (by simp) rfl (Pu.qt (Pu.move rfl)) rfl ?_
            refine O.gq (t := 99) rfl rfl (by simp) rfl (Pu.qt (Pu.beql Try.underlying4 rfl rfl)) rfl ?_
            refine O.p (Pu.pickT rfl (by simp) rfl) rfl ?_
            refine O.p (Pu.move rfl) rfl ?_
            refine O.gq (t := 104) rfl rfl (by simp) rfl (Pu.qt (Pu.move rfl)) rfl ?_
            refine O.gl (t := 104) rfl rfl (by simp) rfl (Lo.call [fv] (by exact Try.call33) rfl (ld_Open fv l (by first | omega | (have hrl := Ld.read_len l; omega) | (have hrl := Ld.read_len l; have hol := Ld.opened_len (Ld.read l).1; omega) | (have hol := Ld.opened_len l; omega) | (rw [Ld.tally_len]; omega))) [] [0, 1, 2, 3] (by decide) rfl _ rfl (RoOk.ro 0 rfl [] rfl RoOk.nil)) rfl ?_
            rintro v15 _ ⟨_, rfl, rfl⟩
            refine O.gq (t := 104) rfl rfl (by simp) rfl (Pu.qt (Pu.move rfl)) rfl ?_
            refine O.gl (t := 104) rfl rfl (by simp) rfl (Lo.call [fv] (by exact Try.call34) rfl (r41_Open fv l (by first | omega | (have hrl := Ld.read_len l; omega) | (have hrl := Ld.read_len l; have hol := Ld.opened_len (Ld.read l).1; omega) | (have hol := Ld.opened_len l; omega) | (rw [Ld.tally_len]; omega))) [] [0, 1, 2, 3, 4] (by decide) rfl _ rfl (RoOk.ro 0 rfl [] rfl RoOk.nil)) rfl ?_
            rintro v16 _ ⟨_, rfl, rfl⟩
            refine O.gl (t := 104) rfl rfl (by simp) rfl (Lo.call [v15, v16] (by exact Try.call32) rfl (r41_Same v15 v16 (Ld.opened l) (by first | omega | (have hrl := Ld.read_len l; omega) | (have hrl := Ld.read_len l; have hol := Ld.opened_len (Ld.read l).1; omega) | (have hol := Ld.opened_len l; omega) | (rw [Ld.tally_len]; omega))) [] [0, 1, 2, 3, 4, 5] (by decide) rfl _ rfl (RoOk.of 1 rfl row_rd [] (by decide) rfl (RoOk.of 0 rfl row_rd [] (by decide) rfl RoOk.nil))) rfl ?_
            rintro _ _ ⟨_, ⟨rfl, rfl⟩, rfl⟩
            refine O.p (Pu.pickT rfl (by simp) rfl) rfl ?_
            refine O.p (Pu.move rfl) rfl ?_
            refine O.gq (t := 111) rfl rfl rfl rfl (Pu.qt (Pu.move rfl)) rfl ?_
            refine O.gl (t := 111) rfl rfl rfl rfl (Lo.call [fv] (by exact Try.call36) rfl (ld_Tally fv l (by first | omega | (have hrl := Ld.read_len l; omega) | (have hrl := Ld.read_len l; have hol := Ld.opened_len (Ld.read l).1; omega) | (have hol := Ld.opened_len l; omega) | (rw [Ld.tally_len]; omega))) [] [0, 1, 2, 3, 4, 5] (by decide) rfl _ rfl (RoOk.ro 0 rfl [] rfl RoOk.nil)) rfl ?_
            rintro v18 _ ⟨_, rfl, rfl⟩
            refine O.gq (t := 111) rfl rfl rfl rfl (Pu.qt (Pu.move rfl)) rfl ?_
            refine O.gl (t := 111) rfl rfl rfl rfl (Lo.call [fv] (by exact Try.call37) rfl (r41_Tally fv l (by first | omega | (have hrl := Ld.read_len l; omega) | (have hrl := Ld.read_len l; have hol := Ld.opened_len (Ld.read l).1; omega) | (have hol := Ld.opened_len l; omega) | (rw [Ld.tally_len]; omega))) [] [0, 1, 2, 3, 4, 5, 6] (by decide) rfl _ rfl (RoOk.ro 0 rfl [] rfl RoOk.nil)) rfl ?_
            rintro v19 _ ⟨_, rfl, rfl⟩
            refine O.gl (t := 111) rfl rfl rfl rfl (Lo.call [v18, v19] (by exact Try.call35) rfl (r01_Same v18 v19 (Ld.tally l) (by first | omega | (have hrl := Ld.read_len l; omega) | (have hrl := Ld.read_len l; have hol := Ld.opened_len (Ld.read l).1; omega) | (have hol := Ld.opened_len l; omega) | (rw [Ld.tally_len]; omega))) [] [0, 1, 2, 3, 4, 5, 6, 7] (by decide) rfl _ rfl (RoOk.of 1 rfl row_rd [] (by decide) rfl (RoOk.of 0 rfl row_rd [] (by decide) rfl RoOk.nil))) rfl ?_
            rintro _ _ ⟨_, ⟨rfl, rfl⟩, rfl⟩
            refine O.p (Pu.pickT rfl rfl rfl) rfl ?_
            refine O.p (Pu.move rfl) rfl ?_
            refine O.gq (t := 118) rfl rfl rfl rfl (Pu.qt (Pu.move rfl)) rfl ?_
            refine O.gq (t := 118) rfl rfl rfl rfl (Pu.qt (Pu.move rfl)) rfl ?_
            refine O.gl (t := 118) rfl rfl rfl rfl (Lo.call [fv, fv] (by exact Try.call38) rfl (ld_Same fv fv l (by first | omega | (have hrl := Ld.read_len l; omega) | (have hrl := Ld.read_len l; have hol := Ld.opened_len (Ld.read l).1; omega) | (have hol := Ld.opened_len l; omega) | (rw [Ld.tally_len]; omega))) [] [0, 1, 2, 3, 4, 5, 6, 7] (by decide) rfl _ rfl (RoOk.ro 0 rfl [] rfl (RoOk.ro 0 rfl [] rfl RoOk.nil))) rfl ?_
            rintro _ _ ⟨_, ⟨rfl, rfl⟩, rfl⟩
            refine O.p (Pu.pickT rfl rfl rfl) rfl ?_
            refine O.p (Pu.move rfl) rfl ?_
            refine O.gq (t := 123) rfl rfl rfl rfl (Pu.qt (Pu.move rfl)) rfl ?_
            refine O.gq (t := 123) rfl rfl rfl rfl (Pu.qt (Pu.move rfl)) rfl ?_
            refine O.gl (t := 123) rfl rfl rfl rfl (Lo.call [fv, V] (by exact Try.call38) rfl (ld_Same_ne fv V l (l ++ [x]) (by first | omega | (have hrl := Ld.read_len l; omega) | (have hrl := Ld.read_len l; have hol := Ld.opened_len (Ld.read l).1; omega) | (have hol := Ld.opened_len l; omega) | (rw [Ld.tally_len]; omega)) (by (simp only [List.length_append, List.length_cons, List.length_nil]; omega)) (by (simp only [List.length_append, List.length_cons, List.length_nil]; omega))) [] [0, 1, 2, 3, 4, 5, 6, 7] (by decide) rfl _ rfl (RoOk.ro 0 rfl [] rfl (RoOk.of 7 rfl row_rd [] (by decide) rfl RoOk.nil))) rfl ?_
            rintro _ _ ⟨_, ⟨rfl, rfl⟩, rfl⟩
            refine O.gq (t := 123) rfl rfl rfl rfl (Pu.qt (Pu.not rfl)) rfl ?_
            refine O.p (Pu.pickT rfl rfl rfl) rfl ?_
            refine O.p (Pu.move rfl) rfl ?_
            refine O.gl (t := 129) rfl rfl rfl rfl (Lo.call [] (by exact Try.call27) rfl law41_awake [] [0, 1, 2, 3, 4, 5, 6, 7] (by decide) rfl _ rfl RoOk.nil) rfl ?_
            rintro _ _ ⟨_, ⟨rfl, rfl⟩, rfl⟩
            refine O.p (Pu.pickT rfl rfl rfl) rfl ?_
            refine O.p (Pu.assign rfl) rfl ?_
            refine O.nil ?_
            exact J.ret (Fin.ret (rs := [.tmp 4]) rfl [_] ⟨rfl, trivial⟩ [] (by decide) [] rfl ⟨rfl, rfl⟩)
          ·
            refine O.gskip (t := 76) rfl rfl (no_bool (by rw [h14]; decide)) rfl rfl ?_
            refine O.gskip (t := 76) rfl rfl (no_bool (by rw [h14]; decide)) rfl rfl ?_
            refine O.gskip (t := 76) rfl rfl (no_bool (by rw [h14]; decide)) rfl rfl ?_
            refine O.gskip (t := 76) rfl rfl (no_bool (by rw [h14]; decide)) rfl rfl ?_
            refine O.gskip (t := 76) rfl rfl (no_bool (by rw [h14]; decide)) rfl rfl ?_
            refine O.gskip (t := 76) rfl rfl (no_bool (by rw [h14]; decide)) rfl rfl ?_
            refine O.gskip (t := 76) rfl rfl (no_bool (by rw [h14]; decide)) rfl rfl ?_
            refine O.gq (t := 74) rfl rfl (by simp) rfl (Pu.qt (Pu.pickF rfl h14 rfl)) rfl ?_
            refine O.gq (t := 74) rfl rfl (by simp) rfl (Pu.qt (Pu.move rfl)) rfl ?_
            refine O.gq (t := 85) rfl rfl rfl rfl (Pu.qt (Pu.move rfl)) rfl ?_
            refine O.gq (t := 85) rfl rfl rfl rfl (Pu.qt (Pu.not rfl)) rfl ?_
            refine O.gq (t := 85) rfl rfl rfl rfl (Pu.qt (Pu.move rfl)) rfl ?_
            refine O.gq (t := 88) rfl rfl (not_of_false h14) rfl (Pu.qt (Pu.move rfl)) rfl ?_
            refine O.gq (t := 88) rfl rfl (not_of_false h14) rfl (Pu.qt (Pu.eql rfl rfl)) rfl ?_
            refine O.gq (t := 85) rfl rfl rfl rfl (Pu.qt (Pu.pickT rfl (not_of_false h14) rfl)) rfl ?_
            refine O.gq (t := 74) rfl rfl (by simp) rfl (Pu.qt (Pu.pickF rfl rfl rfl)) rfl ?_
            refine O.p (Pu.pickT rfl (by simp) rfl) rfl ?_
            refine O.p (Pu.move rfl) rfl ?_
            refine O.gq (t := 94) rfl rfl (decide_eq_true (Ld.waited_no (by assumption))) rfl (Qt.ld rfl (Cel.var 1 rfl) (o := 0) (off := 0) rfl (Cut.agg [.int .i64 (((Ld.last l x.s x.id).1).s), .int .i64 (((Ld.last l x.s x.id).1).id), .int .i64 (((Ld.last l x.s x.id).1).state), .int .i64 (((Ld.last l x.s x.id).1).level), .int .i64 (((Ld.last l x.s x.id).1).code), .int .i64 (((Ld.last l x.s x.id).1).came), .int .i64 (((Ld.last l x.s x.id).1).began), .int .i64 (((Ld.last l x.s x.id).1).ended)] Try.isAgg61 Try.sizeOf61 rfl rfl)) rfl ?_
            refine O.gq (t := 94) rfl rfl (decide_eq_true (Ld.waited_no (by assumption))) rfl (Qt.ld rfl (Cel.var 0 rfl) (o := 0) (off := 0) rfl (Cut.agg [.int .i64 (((Ld.last l x.s x.id).1).s), .int .i64 (((Ld.last l x.s x.id).1).id), .int .i64 (((Ld.last l x.s x.id).1).state), .int .i64 (((Ld.last l x.s x.id).1).level), .int .i64 (((Ld.last l x.s x.id).1).code), .int .i64 (((Ld.last l x.s x.id).1).came), .int .i64 (((Ld.last l x.s x.id).1).began), .int .i64 (((Ld.last l x.s x.id).1).ended)] Try.isAgg61 Try.sizeOf61 rfl rfl)) rfl ?_
            refine O.gq (t := 94) rfl rfl (decide_eq_true (Ld.waited_no (by assumption))) rfl (Pu.qt (Pu.eqlI [((Ld.last l x.s x.id).1).s, ((Ld.last l x.s x.id).1).id, ((Ld.last l x.s x.id).1).state, ((Ld.last l x.s x.id).1).level, ((Ld.last l x.s x.id).1).code, ((Ld.last l x.s x.id).1).came, ((Ld.last l x.s x.id).1).began, ((Ld.last l x.s x.id).1).ended] [((Ld.last l x.s x.id).1).s, ((Ld.last l x.s x.id).1).id, ((Ld.last l x.s x.id).1).state, ((Ld.last l x.s x.id).1).level, ((Ld.last l x.s x.id).1).code, ((Ld.last l x.s x.id).1).came, ((Ld.last l x.s x.id).1).began, ((Ld.last l x.s x.id).1).ended] Try.underlying61 Try.stoodInHeld61 Try.eqGuardType61 (fint61 Try.underlying61) rfl rfl rfl rfl)) rfl ?_
            refine O.p (Pu.pickT rfl (decide_eq_true (Ld.waited_no (by assumption))) rfl) rfl ?_
            refine O.p (Pu.move rfl) rfl ?_
            refine O.gq (t := 99) rfl rfl (by simp) rfl (Pu.qt (Pu.move rfl)) rfl ?_
            refine O.gq (t := 99) rfl rfl (by simp) rfl (Pu.qt (Pu.move rfl)) rfl ?_
            refine O.gq (t := 99) rfl rfl (by simp) rfl (Pu.qt (Pu.beql Try.underlying4 rfl rfl)) rfl ?_
            refine O.p (Pu.pickT rfl (by simp) rfl) rfl ?_
            refine O.p (Pu.move rfl) rfl ?_
            refine O.gq (t := 104) rfl rfl (by simp) rfl (Pu.qt (Pu.move rfl)) rfl ?_
            refine O.gl (t := 104) rfl rfl (by simp) rfl (Lo.call [fv] (by exact Try.call33) rfl (ld_Open fv l (by first | omega | (have hrl := Ld.read_len l; omega) | (have hrl := Ld.read_len l; have hol := Ld.opened_len (Ld.read l).1; omega) | (have hol := Ld.opened_len l; omega) | (rw [Ld.tally_len]; omega))) [] [0, 1, 2, 3] (by decide) rfl _ rfl (RoOk.ro 0 rfl [] rfl RoOk.nil)) rfl ?_
            rintro v24 _ ⟨_, rfl, rfl⟩
            refine O.gq (t := 104) rfl rfl (by simp) rfl (Pu.qt (Pu.move rfl)) rfl ?_
            refine O.gl (t := 104) rfl rfl (by simp) rfl (Lo.call [fv] (by exact Try.call34) rfl (r41_Open fv l (by first | omega | (have hrl := Ld.read_len l; omega) | (have hrl := Ld.read_len l; have hol := Ld.opened_len (Ld.read l).1; omega) | (have hol := Ld.opened_len l; omega) | (rw [Ld.tally_len]; omega))) [] [0, 1, 2, 3, 4] (by decide) rfl _ rfl (RoOk.ro 0 rfl [] rfl RoOk.nil)) rfl ?_
            rintro v25 _ ⟨_, rfl, rfl⟩
            refine O.gl (t := 104) rfl rfl (by simp) rfl (Lo.call [v24, v25] (by exact Try.call32) rfl (r41_Same v24 v25 (Ld.opened l) (by first | omega | (have hrl := Ld.read_len l; omega) | (have hrl := Ld.read_len l; have hol := Ld.opened_len (Ld.read l).1; omega) | (have hol := Ld.opened_len l; omega) | (rw [Ld.tally_len]; omega))) [] [0, 1, 2, 3, 4, 5] (by decide) rfl _ rfl (RoOk.of 1 rfl row_rd [] (by decide) rfl (RoOk.of 0 rfl row_rd [] (by decide) rfl RoOk.nil))) rfl ?_
            rintro _ _ ⟨_, ⟨rfl, rfl⟩, rfl⟩
            refine O.p (Pu.pickT rfl (by simp) rfl) rfl ?_
            refine O.p (Pu.move rfl) rfl ?_
            refine O.gq (t := 111) rfl rfl rfl rfl (Pu.qt (Pu.move rfl)) rfl ?_
            refine O.gl (t := 111) rfl rfl rfl rfl (Lo.call [fv] (by exact Try.call36) rfl (ld_Tally fv l (by first | omega | (have hrl := Ld.read_len l; omega) | (have hrl := Ld.read_len l; have hol := Ld.opened_len (Ld.read l).1; omega) | (have hol := Ld.opened_len l; omega) | (rw [Ld.tally_len]; omega))) [] [0, 1, 2, 3, 4, 5] (by decide) rfl _ rfl (RoOk.ro 0 rfl [] rfl RoOk.nil)) rfl ?_
            rintro v27 _ ⟨_, rfl, rfl⟩
            refine O.gq (t := 111) rfl rfl rfl rfl (Pu.qt (Pu.move rfl)) rfl ?_
            refine O.gl (t := 111) rfl rfl rfl rfl (Lo.call [fv] (by exact Try.call37) rfl (r41_Tally fv l (by first | omega | (have hrl := Ld.read_len l; omega) | (have hrl := Ld.read_len l; have hol := Ld.opened_len (Ld.read l).1; omega) | (have hol := Ld.opened_len l; omega) | (rw [Ld.tally_len]; omega))) [] [0, 1, 2, 3, 4, 5, 6] (by decide) rfl _ rfl (RoOk.ro 0 rfl [] rfl RoOk.nil)) rfl ?_
            rintro v28 _ ⟨_, rfl, rfl⟩
            refine O.gl (t := 111) rfl rfl rfl rfl (Lo.call [v27, v28] (by exact Try.call35) rfl (r01_Same v27 v28 (Ld.tally l) (by first | omega | (have hrl := Ld.read_len l; omega) | (have hrl := Ld.read_len l; have hol := Ld.opened_len (Ld.read l).1; omega) | (have hol := Ld.opened_len l; omega) | (rw [Ld.tally_len]; omega))) [] [0, 1, 2, 3, 4, 5, 6, 7] (by decide) rfl _ rfl (RoOk.of 1 rfl row_rd [] (by decide) rfl (RoOk.of 0 rfl row_rd [] (by decide) rfl RoOk.nil))) rfl ?_
            rintro _ _ ⟨_, ⟨rfl, rfl⟩, rfl⟩
            refine O.p (Pu.pickT rfl rfl rfl) rfl ?_
            refine O.p (Pu.move rfl) rfl ?_
            refine O.gq (t := 118) rfl rfl rfl rfl (Pu.qt (Pu.move rfl)) rfl ?_
            refine O.gq (t := 118) rfl rfl rfl rfl (Pu.qt (Pu.move rfl)) rfl ?_
            refine O.gl (t := 118) rfl rfl rfl rfl (Lo.call [fv, fv] (by exact Try.call38) rfl (ld_Same fv fv l (by first | omega | (have hrl := Ld.read_len l; omega) | (have hrl := Ld.read_len l; have hol := Ld.opened_len (Ld.read l).1; omega) | (have hol := Ld.opened_len l; omega) | (rw [Ld.tally_len]; omega))) [] [0, 1, 2, 3, 4, 5, 6, 7] (by decide) rfl _ rfl (RoOk.ro 0 rfl [] rfl (RoOk.ro 0 rfl [] rfl RoOk.nil))) rfl ?_
            rintro _ _ ⟨_, ⟨rfl, rfl⟩, rfl⟩
            refine O.p (Pu.pickT rfl rfl rfl) rfl ?_
            refine O.p (Pu.move rfl) rfl ?_
            refine O.gq (t := 123) rfl rfl rfl rfl (Pu.qt (Pu.move rfl)) rfl ?_
            refine O.gq (t := 123) rfl rfl rfl rfl (Pu.qt (Pu.move rfl)) rfl ?_
            refine O.gl (t := 123) rfl rfl rfl rfl (Lo.call [fv, V] (by exact Try.call38) rfl (ld_Same_ne fv V l (l ++ [x]) (by first | omega | (have hrl := Ld.read_len l; omega) | (have hrl := Ld.read_len l; have hol := Ld.opened_len (Ld.read l).1; omega) | (have hol := Ld.opened_len l; omega) | (rw [Ld.tally_len]; omega)) (by (simp only [List.length_append, List.length_cons, List.length_nil]; omega)) (by (simp only [List.length_append, List.length_cons, List.length_nil]; omega))) [] [0, 1, 2, 3, 4, 5, 6, 7] (by decide) rfl _ rfl (RoOk.ro 0 rfl [] rfl (RoOk.of 7 rfl row_rd [] (by decide) rfl RoOk.nil))) rfl ?_
            rintro _ _ ⟨_, ⟨rfl, rfl⟩, rfl⟩
            refine O.gq (t := 123) rfl rfl rfl rfl (Pu.qt (Pu.not rfl)) rfl ?_
            refine O.p (Pu.pickT rfl rfl rfl) rfl ?_
            refine O.p (Pu.move rfl) rfl ?_
            refine O.gl (t := 129) rfl rfl rfl rfl (Lo.call [] (by exact Try.call27) rfl law41_awake [] [0, 1, 2, 3, 4, 5, 6, 7] (by decide) rfl _ rfl RoOk.nil) rfl ?_
            rintro _ _ ⟨_, ⟨rfl, rfl⟩, rfl⟩
            refine O.p (Pu.pickT rfl rfl rfl) rfl ?_
            refine O.p (Pu.assign rfl) rfl ?_
            refine O.nil ?_
            exact J.ret (Fin.ret (rs := [.tmp 4]) rfl [_] ⟨rfl, trivial⟩ [] (by decide) [] rfl ⟨rfl, rfl⟩)
        ·
          refine J.draw Try.mixed #[false, false, false, false, false, false, false] rfl ?_
          refine D.take (listed' := #[false, true, false, false, false, false, false]) 1 rfl (by kernel_rfl) (by kernel_rfl) (by kernel_rfl) rfl (Pu.move rfl) rfl ?_
          refine D.all 0 [3] (by kernel_rfl) ⟨?_, ?_, trivial⟩
          ·
            refine W.l (listed' := #[true, true, false, false, false, false, false]) rfl rfl (Lo.buildE Ft.cells (by exact Try.runUnderlying55) (by exact Try.sizeOf61)) rfl ?_
            rintro V33 _ rfl
            refine D.all 2 [3] (by kernel_rfl) ⟨?_, ?_, trivial⟩
            ·
              refine W.l (listed' := #[true, true, true, false, false, false, false]) rfl rfl (Lo.appendM (s := 8) 0 (by exact Try.underlying55) (by exact (info61).1) (by exact (info61).2.1) (by exact (info61).2.2.1) (by exact (info61).2.2.2) rfl rfl rfl rfl rfl (Src.ro 0 rfl) Ft.one (by first | omega | (simp only [List.length_append, List.length_cons, List.length_nil]; omega)) (by first | omega | (simp only [List.length_append, List.length_cons, List.length_nil]; omega))) rfl ?_
              rintro V34 _ rfl
              refine D.all 3 [] (by kernel_rfl) ⟨?_, trivial⟩
              refine W.q (listed' := #[true, true, true, true, false, false, false]) rfl rfl (Qt.ld rfl (Cel.var 3 rfl) (o := 0) (off := 0) rfl (Cut.agg [.int .i64 x.s, .int .i64 x.id, .int .i64 x.state, .int .i64 x.level, .int .i64 x.code, .int .i64 x.came, .int .i64 x.began, .int .i64 x.ended] Try.isAgg61 Try.sizeOf61 rfl rfl)) rfl ?_
              refine D.all 4 [] (by kernel_rfl) ⟨?_, trivial⟩
              refine W.l (listed' := #[true, true, true, true, true, false, false]) rfl rfl (Lo.buildM (s := 8) Ft.cells [x] [(0, .agg #[.int .i64 x.s, .int .i64 x.id, .int .i64 x.state, .int .i64 x.level, .int .i64 x.code, .int .i64 x.came, .int .i64 x.began, .int .i64 x.ended])] (by exact Try.runUnderlying55) (by exact Try.sizeOf61) (by exact Try.zeroValue61) rfl rfl rfl (by kernel_rfl) rfl rfl) rfl ?_
              rintro V35 _ rfl
              refine D.all 5 [] (by kernel_rfl) ⟨?_, trivial⟩
              refine W.l (listed' := #[true, true, true, true, true, true, false]) rfl rfl (Lo.appendM (s := 8) 1 (by exact Try.underlying55) (by exact (info61).1) (by exact (info61).2.1) (by exact (info61).2.2.1) (by exact (info61).2.2.2) rfl rfl rfl rfl rfl (Src.row 0 rfl) Ft.one (by first | omega | (simp only [List.length_append, List.length_cons, List.length_nil]; omega)) (by first | omega | (simp only [List.length_append, List.length_cons, List.length_nil]; omega))) rfl ?_
              rintro V36 _ rfl
              refine D.take (listed' := #[true, true, true, true, true, true, true]) 6 rfl (by kernel_rfl) (by kernel_rfl) (by kernel_rfl) rfl (Pu.assign rfl) rfl ?_
              refine D.done (by kernel_rfl) ?_
              exact J.cutEnd V36 (show True from trivial) ⟨rfl, rfl, rfl, rfl, rfl, rfl, rfl, rfl, rfl, rfl, rfl, trivial⟩ [2, 3, 4, 1] (by decide) rfl
            ·
              refine W.q (listed' := #[true, true, false, true, false, false, false]) rfl rfl (Qt.ld rfl (Cel.var 3 rfl) (o := 0) (off := 0) rfl (Cut.agg [.int .i64 x.s, .int .i64 x.id, .int .i64 x.state, .int .i64 x.level, .int .i64 x.code, .int .i64 x.came, .int .i64 x.began, .int .i64 x.ended] Try.isAgg61 Try.sizeOf61 rfl rfl)) rfl ?_
              refine D.all 2 [4] (by kernel_rfl) ⟨?_, ?_, trivial⟩
              ·
                refine W.l (listed' := #[true, true, true, true, false, false, false]) rfl rfl (Lo.appendM (s := 8) 0 (by exact Try.underlying55) (by exact (info61).1) (by exact (info61).2.1) (by exact (info61).2.2.1) (by exact (info61).2.2.2) rfl rfl rfl rfl rfl (Src.ro 0 rfl) Ft.one (by first | omega | (simp only [List.length_append, List.length_cons, List.length_nil]; omega)) (by first | omega | (simp only [List.length_append, List.length_cons, List.length_nil]; omega))) rfl ?_
                rintro V37 _ rfl
                refine D.all 4 [] (by kernel_rfl) ⟨?_, trivial⟩
                refine W.l (listed' := #[true, true, true, true, true, false, false]) rfl rfl (Lo.buildM (s := 8) Ft.cells [x] [(0, .agg #[.int .i64 x.s, .int .i64 x.id, .int .i64 x.state, .int .i64 x.level, .int .i64 x.code, .int .i64 x.came, .int .i64 x.began, .int .i64 x.ended])] (by exact Try.runUnderlying55) (by exact Try.sizeOf61) (by exact Try.zeroValue61) rfl rfl rfl (by kernel_rfl) rfl rfl) rfl ?_
                rintro V38 _ rfl
                refine D.all 5 [] (by kernel_rfl) ⟨?_, trivial⟩
                refine W.l (listed' := #[true, true, true, true, true, true, false]) rfl rfl (Lo.appendM (s := 8) 1 (by exact Try.underlying55) (by exact (info61).1) (by exact (info61).2.1) (by exact (info61).2.2.1) (by exact (info61).2.2.2) rfl rfl rfl rfl rfl (Src.row 0 rfl) Ft.one (by first | omega | (simp only [List.length_append, List.length_cons, List.length_nil]; omega)) (by first | omega | (simp only [List.length_append, List.length_cons, List.length_nil]; omega))) rfl ?_
                rintro V39 _ rfl
                refine D.take (listed' := #[true, true, true, true, true, true, true]) 6 rfl (by kernel_rfl) (by kernel_rfl) (by kernel_rfl) rfl (Pu.assign rfl) rfl ?_
                refine D.done (by kernel_rfl) ?_
                exact J.cutEnd V39 (show True from trivial) ⟨rfl, rfl, rfl, rfl, rfl, rfl, rfl, rfl, rfl, rfl, rfl, trivial⟩ [2, 3, 4, 1] (by decide) rfl
              ·
                refine W.l (listed' := #[true, true, false, true, true, false, false]) rfl rfl (Lo.buildM (s := 8) Ft.cells [x] [(0, .agg #[.int .i64 x.s, .int .i64 x.id, .int .i64 x.state, .int .i64 x.level, .int .i64 x.code, .int .i64 x.came, .int .i64 x.began, .int .i64 x.ended])] (by exact Try.runUnderlying55) (by exact Try.sizeOf61) (by exact Try.zeroValue61) rfl rfl rfl (by kernel_rfl) rfl rfl) rfl ?_
                rintro V40 _ rfl
                refine D.all 2 [] (by kernel_rfl) ⟨?_, trivial⟩
                refine W.l (listed' := #[true, true, true, true, true, false, false]) rfl rfl (Lo.appendM (s := 8) 1 (by exact Try.underlying55) (by exact (info61).1) (by exact (info61).2.1) (by exact (info61).2.2.1) (by exact (info61).2.2.2) rfl rfl rfl rfl rfl (Src.ro 0 rfl) Ft.one (by first | omega | (simp only [List.length_append, List.length_cons, List.length_nil]; omega)) (by first | omega | (simp only [List.length_append, List.length_cons, List.length_nil]; omega))) rfl ?_
                rintro V41 _ rfl
                refine D.all 5 [] (by kernel_rfl) ⟨?_, trivial⟩
                refine W.l (listed' := #[true, true, true, true, true, true, false]) rfl rfl (Lo.appendM (s := 8) 1 (by exact Try.underlying55) (by exact (info61).1) (by exact (info61).2.1) (by exact (info61).2.2.1) (by exact (info61).2.2.2) rfl rfl rfl rfl rfl (Src.row 0 rfl) Ft.one (by first | omega | (simp only [List.length_append, List.length_cons, List.length_nil]; omega)) (by first | omega | (simp only [List.length_append, List.length_cons, List.length_nil]; omega))) rfl ?_
                rintro V42 _ rfl
                refine D.take (listed' := #[true, true, true, true, true, true, true]) 6 rfl (by kernel_rfl) (by kernel_rfl) (by kernel_rfl) rfl (Pu.assign rfl) rfl ?_
                refine D.done (by kernel_rfl) ?_
                exact J.cutEnd V42 (show True from trivial) ⟨rfl, rfl, rfl, rfl, rfl, rfl, rfl, rfl, rfl, rfl, rfl, trivial⟩ [2, 3, 4, 1] (by decide) rfl
          ·
            refine W.q (listed' := #[false, true, false, true, false, false, false]) rfl rfl (Qt.ld rfl (Cel.var 2 rfl) (o := 0) (off := 0) rfl (Cut.agg [.int .i64 x.s, .int .i64 x.id, .int .i64 x.state, .int .i64 x.level, .int .i64 x.code, .int .i64 x.came, .int .i64 x.began, .int .i64 x.ended] Try.isAgg61 Try.sizeOf61 rfl rfl)) rfl ?_
            refine D.all 0 [4] (by kernel_rfl) ⟨?_, ?_, trivial⟩
            ·
              refine W.l (listed' := #[true, true, false, true, false, false, false]) rfl rfl (Lo.buildE Ft.cells (by exact Try.runUnderlying55) (by exact Try.sizeOf61)) rfl ?_
              rintro V43 _ rfl
              refine D.all 2 [4] (by kernel_rfl) ⟨?_, ?_, trivial⟩
              ·
                refine W.l (listed' := #[true, true, true, true, false, false, false]) rfl rfl (Lo.appendM (s := 8) 0 (by exact Try.underlying55) (by exact (info61).1) (by exact (info61).2.1) (by exact (info61).2.2.1) (by exact (info61).2.2.2) rfl rfl rfl rfl rfl (Src.ro 0 rfl) Ft.one (by first | omega | (simp only [List.length_append, List.length_cons, List.length_nil]; omega)) (by first | omega | (simp only [List.length_append, List.length_cons, List.length_nil]; omega))) rfl ?_
                rintro V44 _ rfl
                refine D.all 4 [] (by kernel_rfl) ⟨?_, trivial⟩
                refine W.l (listed' := #[true, true, true, true, true, false, false]) rfl rfl (Lo.buildM (s := 8) Ft.cells [x] [(0, .agg #[.int .i64 x.s, .int .i64 x.id, .int .i64 x.state, .int .i64 x.level, .int .i64 x.code, .int .i64 x.came, .int .i64 x.began, .int .i64 x.ended])] (by exact Try.runUnderlying55) (by exact Try.sizeOf61) (by exact Try.zeroValue61) rfl rfl rfl (by kernel_rfl) rfl rfl) rfl ?_
                rintro V45 _ rfl
                refine D.all 5 [] (by kernel_rfl) ⟨?_, trivial⟩
                refine W.l (listed' := #[true, true, true, true, true, true, false]) rfl rfl (Lo.appendM (s := 8) 1 (by exact Try.underlying55) (by exact (info61).1) (by exact (info61).2.1) (by exact (info61).2.2.1) (by exact (info61).2.2.2) rfl rfl rfl rfl rfl (Src.row 0 rfl) Ft.one (by first | omega | (simp only [List.length_append, List.length_cons, List.length_nil]; omega)) (by first | omega | (simp only [List.length_append, List.length_cons, List.length_nil]; omega))) rfl ?_
                rintro V46 _ rfl
                refine D.take (listed' := #[true, true, true, true, true, true, true]) 6 rfl (by kernel_rfl) (by kernel_rfl) (by kernel_rfl) rfl (Pu.assign rfl) rfl ?_
                refine D.done (by kernel_rfl) ?_
                exact J.cutEnd V46 (show True from trivial) ⟨rfl, rfl, rfl, rfl, rfl, rfl, rfl, rfl, rfl, rfl, rfl, trivial⟩ [2, 3, 4, 1] (by decide) rfl
              ·
                refine W.l (listed' := #[true, true, false, true, true, false, false]) rfl rfl (Lo.buildM (s := 8) Ft.cells [x] [(0, .agg #[.int .i64 x.s, .int .i64 x.id, .int .i64 x.state, .int .i64 x.level, .int .i64 x.code, .int .i64 x.came, .int .i64 x.began, .int .i64 x.ended])] (by exact Try.runUnderlying55) (by exact Try.sizeOf61) (by exact Try.zeroValue61) rfl rfl rfl (by kernel_rfl) rfl rfl) rfl ?_
                rintro V47 _ rfl
                refine D.all 2 [] (by kernel_rfl) ⟨?_, trivial⟩
                refine W.l (listed' := #[true, true, true, true, true, false, false]) rfl rfl (Lo.appendM (s := 8) 1 (by exact Try.underlying55) (by exact (info61).1) (by exact (info61).2.1) (by exact (info61).2.2.1) (by exact (info61).2.2.2) rfl rfl rfl rfl rfl (Src.ro 0 rfl) Ft.one (by first | omega | (simp only [List.length_append, List.length_cons, List.length_nil]; omega)) (by first | omega | (simp only [List.length_append, List.length_cons, List.length_nil]; omega))) rfl ?_
                rintro V48 _ rfl
                refine D.all 5 [] (by kernel_rfl) ⟨?_, trivial⟩
                refine W.l (listed' := #[true, true, true, true, true, true, false]) rfl rfl (Lo.appendM (s := 8) 1 (by exact Try.underlying55) (by exact (info61).1) (by exact (info61).2.1) (by exact (info61).2.2.1) (by exact (info61).2.2.2) rfl rfl rfl rfl rfl (Src.row 0 rfl) Ft.one (by first | omega | (simp only [List.length_append, List.length_cons, List.length_nil]; omega)) (by first | omega | (simp only [List.length_append, List.length_cons, List.length_nil]; omega))) rfl ?_
                rintro V49 _ rfl
                refine D.take (listed' := #[true, true, true, true, true, true, true]) 6 rfl (by kernel_rfl) (by kernel_rfl) (by kernel_rfl) rfl (Pu.assign rfl) rfl ?_
                refine D.done (by kernel_rfl) ?_
                exact J.cutEnd V49 (show True from trivial) ⟨rfl, rfl, rfl, rfl, rfl, rfl, rfl, rfl, rfl, rfl, rfl, trivial⟩ [2, 3, 4, 1] (by decide) rfl
            ·
              refine W.l (listed' := #[false, true, false, true, true, false, false]) rfl rfl (Lo.buildM (s := 8) Ft.cells [x] [(0, .agg #[.int .i64 x.s, .int .i64 x.id, .int .i64 x.state, .int .i64 x.level, .int .i64 x.code, .int .i64 x.came, .int .i64 x.began, .int .i64 x.ended])] (by exact Try.runUnderlying55) (by exact Try.sizeOf61) (by exact Try.zeroValue61) rfl rfl rfl (by kernel_rfl) rfl rfl) rfl ?_
              rintro V50 _ rfl
              refine D.all 0 [] (by kernel_rfl) ⟨?_, trivial⟩
              refine W.l (listed' := #[true, true, false, true, true, false, false]) rfl rfl (Lo.buildE Ft.cells (by exact Try.runUnderlying55) (by exact Try.sizeOf61)) rfl ?_
              rintro V51 _ rfl
              refine D.all 2 [] (by kernel_rfl) ⟨?_, trivial⟩
              refine W.l (listed' := #[true, true, true, true, true, false, false]) rfl rfl (Lo.appendM (s := 8) 0 (by exact Try.underlying55) (by exact (info61).1) (by exact (info61).2.1) (by exact (info61).2.2.1) (by exact (info61).2.2.2) rfl rfl rfl rfl rfl (Src.ro 0 rfl) Ft.one (by first | omega | (simp only [List.length_append, List.length_cons, List.length_nil]; omega)) (by first | omega | (simp only [List.length_append, List.length_cons, List.length_nil]; omega))) rfl ?_
              rintro V52 _ rfl
              refine D.all 5 [] (by kernel_rfl) ⟨?_, trivial⟩
              refine W.l (listed' := #[true, true, true, true, true, true, false]) rfl rfl (Lo.appendM (s := 8) 0 (by exact Try.underlying55) (by exact (info61).1) (by exact (info61).2.1) (by exact (info61).2.2.1) (by exact (info61).2.2.2) rfl rfl rfl rfl rfl (Src.row 1 rfl) Ft.one (by first | omega | (simp only [List.length_append, List.length_cons, List.length_nil]; omega)) (by first | omega | (simp only [List.length_append, List.length_cons, List.length_nil]; omega))) rfl ?_
              rintro V53 _ rfl
              refine D.take (listed' := #[true, true, true, true, true, true, true]) 6 rfl (by kernel_rfl) (by kernel_rfl) (by kernel_rfl) rfl (Pu.assign rfl) rfl ?_
              refine D.done (by kernel_rfl) ?_
              exact J.cutEnd V53 (show True from trivial) ⟨rfl, rfl, rfl, rfl, rfl, rfl, rfl, rfl, rfl, rfl, rfl, trivial⟩ [2, 3, 4, 0] (by decide) rfl
      ·
        refine J.region ?_
        refine O.p (Pu.move rfl) rfl ?_
        refine O.p (Pu.move rfl) rfl ?_
        refine by_bool (decide (x.state = 3) || decide (x.state = 4)) (fun h54 => ?_) (fun h54 => ?_)
        ·
          refine O.gq (t := 32) rfl rfl h54 rfl (Pu.qt (Pu.fieldAddr (off' := 6) Try.runUnderlying61 rfl Try.sizeOf3 rfl rfl rfl)) rfl ?_
          refine O.gq (t := 32) rfl rfl h54 rfl (Qt.ld rfl (Cel.var 0 rfl) (o := 0) (off := 6) rfl (Cut.one Try.isAgg3 rfl)) rfl ?_
          refine O.gq (t := 32) rfl rfl h54 rfl (Pu.qt (Pu.neq rfl rfl)) rfl ?_
          refine O.gq (t := 32) rfl rfl h54 rfl (Pu.qt (Pu.move rfl)) rfl ?_
          refine by_bool (decide (x.began ≠ 0)) (fun h55 => ?_) (fun h55 => ?_)
          ·
            have p56 := of_decide_eq_true h55
            refine O.gskip (t := 36) rfl rfl (no_bool (by rw [h55]; decide)) rfl rfl ?_
            refine O.gskip (t := 36) rfl rfl (no_bool (by rw [h55]; decide)) rfl rfl ?_
            refine O.gskip (t := 36) rfl rfl (no_bool (by rw [h55]; decide)) rfl rfl ?_
            refine O.gskip (t := 36) rfl rfl (no_bool (by rw [h55]; decide)) rfl rfl ?_
            refine O.gskip (t := 40) rfl rfl (no_undef _) rfl rfl ?_
            refine O.gskip (t := 40) rfl rfl (no_undef _) rfl rfl ?_
            refine O.gskip (t := 40) rfl rfl (no_undef _) rfl rfl ?_
            refine O.gskip (t := 36) rfl rfl (no_bool (by rw [h55]; decide)) rfl rfl ?_
            refine O.gq (t := 32) rfl rfl h54 rfl (Pu.qt (Pu.pickT rfl h55 rfl)) rfl ?_
            refine O.p (Pu.pickT rfl h54 rfl) rfl ?_
            refine O.p (Pu.assign rfl) rfl ?_
            refine O.nil ?_
            exact J.cutEnd ⟨⟩ (show True from trivial) ⟨rfl, rfl, rfl, rfl, rfl, (congrArg (fun z => some (Value.bool z)) (show true = (Ld.waited x).2 from (by first | (simp [Ld.waited, *]; done) | (by_cases h3 : x.state = 3 <;> simp_all [Ld.waited])))), trivial⟩ [0] (by decide) rfl
          ·
            have p57 := of_decide_eq_false h55
            refine O.gq (t := 36) rfl rfl h55 rfl (Pu.qt (Pu.fieldAddr (off' := 5) Try.runUnderlying61 rfl Try.sizeOf3 rfl rfl rfl)) rfl ?_
            refine O.gq (t := 36) rfl rfl h55 rfl (Qt.ld rfl (Cel.var 0 rfl) (o := 0) (off := 5) rfl (Cut.one Try.isAgg3 rfl)) rfl ?_
            refine O.gq (t := 36) rfl rfl h55 rfl (Pu.qt (Pu.eql rfl rfl)) rfl ?_
            refine O.gq (t := 36) rfl rfl h55 rfl (Pu.qt (Pu.move rfl)) rfl ?_
            refine by_bool (decide (x.came = 0)) (fun h58 => ?_) (fun h58 => ?_)
            ·
              have p59 := of_decide_eq_true h58
              refine O.gq (t := 40) rfl rfl h58 rfl (Pu.qt (Pu.fieldAddr (off' := 2) Try.runUnderlying61 rfl Try.sizeOf3 rfl rfl rfl)) rfl ?_
              refine O.gq (t := 40) rfl rfl h58 rfl (Qt.ld rfl (Cel.var 0 rfl) (o := 0) (off := 2) rfl (Cut.one Try.isAgg3 rfl)) rfl ?_
              refine O.gq (t := 40) rfl rfl h58 rfl (Pu.qt (Pu.eql rfl rfl)) rfl ?_
              refine O.gq (t := 36) rfl rfl h55 rfl (Pu.qt (Pu.pickT rfl h58 rfl)) rfl ?_
              refine O.gq (t := 32) rfl rfl h54 rfl (Pu.qt (Pu.pickF rfl h55 rfl)) rfl ?_
              refine O.p (Pu.pickT rfl h54 rfl) rfl ?_
              refine O.p (Pu.assign rfl) rfl ?_
              refine O.nil ?_
              exact J.cutEnd ⟨⟩ (show True from trivial) ⟨rfl, rfl, rfl, rfl, rfl, (congrArg (fun z => some (Value.bool z)) (show decide (x.state = 3) = (Ld.waited x).2 from (by first | (simp [Ld.waited, *]; done) | (by_cases h3 : x.state = 3 <;> simp_all [Ld.waited])))), trivial⟩ [0] (by decide) rfl
            ·
              have p60 := of_decide_eq_false h58
              refine O.gskip (t := 40) rfl rfl (no_bool (by rw [h58]; decide)) rfl rfl ?_
              refine O.gskip (t := 40) rfl rfl (no_bool (by rw [h58]; decide)) rfl rfl ?_
              refine O.gskip (t := 40) rfl rfl (no_bool (by rw [h58]; decide)) rfl rfl ?_
              refine O.gq (t := 36) rfl rfl h55 rfl (Pu.qt (Pu.pickF rfl h58 rfl)) rfl ?_
              refine O.gq (t := 32) rfl rfl h54 rfl (Pu.qt (Pu.pickF rfl h55 rfl)) rfl ?_
              refine O.p (Pu.pickT rfl h54 rfl) rfl ?_
              refine O.p (Pu.assign rfl) rfl ?_
              refine O.nil ?_
              exact J.cutEnd ⟨⟩ (show True from trivial) ⟨rfl, rfl, rfl, rfl, rfl, (congrArg (fun z => some (Value.bool z)) (show false = (Ld.waited x).2 from (by first | (simp [Ld.waited, *]; done) | (by_cases h3 : x.state = 3 <;> simp_all [Ld.waited])))), trivial⟩ [0] (by decide) rfl
        ·
          refine O.gskip (t := 32) rfl rfl (no_bool (by rw [h54]; decide)) rfl rfl ?_
          refine O.gskip (t := 32) rfl rfl (no_bool (by rw [h54]; decide)) rfl rfl ?_
          refine O.gskip (t := 32) rfl rfl (no_bool (by rw [h54]; decide)) rfl rfl ?_
          refine O.gskip (t := 32) rfl rfl (no_bool (by rw [h54]; decide)) rfl rfl ?_
          refine O.gskip (t := 36) rfl rfl (no_undef _) rfl rfl ?_
          refine O.gskip (t := 36) rfl rfl (no_undef _) rfl rfl ?_
          refine O.gskip (t := 36) rfl rfl (no_undef _) rfl rfl ?_
          refine O.gskip (t := 36) rfl rfl (no_undef _) rfl rfl ?_
          refine O.gskip (t := 40) rfl rfl (no_undef _) rfl rfl ?_
          refine O.gskip (t := 40) rfl rfl (no_undef _) rfl rfl ?_
          refine O.gskip (t := 40) rfl rfl (no_undef _) rfl rfl ?_
          refine O.gskip (t := 36) rfl rfl (no_undef _) rfl rfl ?_
          refine O.gskip (t := 32) rfl rfl (no_bool (by rw [h54]; decide)) rfl rfl ?_
          refine O.p (Pu.pickF rfl h54 rfl) rfl ?_
          refine O.p (Pu.assign rfl) rfl ?_
          refine O.nil ?_
          exact J.cutEnd ⟨⟩ (show True from trivial) ⟨rfl, rfl, rfl, rfl, rfl, (congrArg (fun z => some (Value.bool z)) (show false = (Ld.waited x).2 from (by first | (simp [Ld.waited, *]; done) | (by_cases h3 : x.state = 3 <;> simp_all [Ld.waited])))), trivial⟩ [0] (by decide) rfl
    ·
      refine J.region ?_
      refine O.p (Pu.fieldAddr (off' := 2) Try.runUnderlying61 rfl Try.sizeOf3 rfl rfl rfl) rfl ?_
      refine O.q (Qt.ld rfl (Cel.var 0 rfl) (o := 0) (off := 2) rfl (Cut.one Try.isAgg3 rfl)) rfl ?_
      refine O.p (Pu.eql rfl rfl) rfl ?_
      refine O.p (Pu.move rfl) rfl ?_
      refine by_bool (decide (x.state = 3)) (fun h61 => ?_) (fun h61 => ?_)
      ·
        have p62 := of_decide_eq_true h61
        refine O.gskip (t := 26) rfl rfl (no_bool (by rw [h61]; decide)) rfl rfl ?_
        refine O.gskip (t := 26) rfl rfl (no_bool (by rw [h61]; decide)) rfl rfl ?_
        refine O.gskip (t := 26) rfl rfl (no_bool (by rw [h61]; decide)) rfl rfl ?_
        refine O.p (Pu.pickT rfl h61 rfl) rfl ?_
        refine O.p (Pu.assign rfl) rfl ?_
        refine O.nil ?_
        exact J.cutEnd ⟨⟩ (show True from trivial) ⟨rfl, rfl, rfl, rfl, rfl, (congrArg (fun z => some (Value.bool z)) (show true = (decide (x.state = 3) || decide (x.state = 4)) from (by simp [*]))), trivial⟩ [0] (by decide) rfl
      ·
        have p63 := of_decide_eq_false h61
        refine O.gq (t := 26) rfl rfl h61 rfl (Pu.qt (Pu.fieldAddr (off' := 2) Try.runUnderlying61 rfl Try.sizeOf3 rfl rfl rfl)) rfl ?_
        refine O.gq (t := 26) rfl rfl h61 rfl (Qt.ld rfl (Cel.var 0 rfl) (o := 0) (off := 2) rfl (Cut.one Try.isAgg3 rfl)) rfl ?_
        refine O.gq (t := 26) rfl rfl h61 rfl (Pu.qt (Pu.eql rfl rfl)) rfl ?_
        refine O.p (Pu.pickF rfl h61 rfl) rfl ?_
        refine O.p (Pu.assign rfl) rfl ?_
        refine O.nil ?_
        exact J.cutEnd ⟨⟩ (show True from trivial) ⟨rfl, rfl, rfl, rfl, rfl, (congrArg (fun z => some (Value.bool z)) (show decide (x.state = 4) = (decide (x.state = 3) || decide (x.state = 4)) from (by simp [*]))), trivial⟩ [0] (by decide) rfl

end Go.Proofs.Ytghhjhjpccipaaa
