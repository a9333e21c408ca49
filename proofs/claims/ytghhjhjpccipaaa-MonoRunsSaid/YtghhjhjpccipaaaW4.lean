/-
  Walks, printed by a program of mine (lk.py): each function meets its contract.
-/
import Derived.KernelRfl
import Derived.Test.YtghhjhjpccipaaaW3
namespace Go.Proofs.Ytghhjhjpccipaaa
open Go Go.LK

set_option maxRecDepth 100000 in
theorem r42_decision (e : Ev) (s : Int) : Tri Try.prog 52 #[.agg #[.int .i64 e.kind, .int .i64 e.tick, .int .i64 e.s, .int .i64 e.id, .int .i64 e.code, .int .i64 e.a, .int .i64 e.b], .int .i64 s] [] [] (fun v L' => v = .bool (decide (e.s = s) && Mono.dec e) ∧ L' = []) := by
  refine Tri.enter (args := [.agg #[.int .i64 e.kind, .int .i64 e.tick, .int .i64 e.s, .int .i64 e.id, .int .i64 e.code, .int .i64 e.a, .int .i64 e.b], .int .i64 s]) (body := _) 24 Try.func52 rfl Try.ntmps52 rfl ?_
  intro w0
  refine J.seq ?_
  refine J.region ?_
  refine O.l (Lo.box [.int .i64 e.kind, .int .i64 e.tick, .int .i64 e.s, .int .i64 e.id, .int .i64 e.code, .int .i64 e.a, .int .i64 e.b] rfl rfl) rfl ?_
  rintro _ _ ⟨g1, rfl, rfl⟩
  refine O.p (Pu.assign rfl) rfl ?_
  refine O.nil ?_
  refine J.seq ?_
  refine J.region ?_
  refine O.p (Pu.fieldAddr (off' := 2) Try.runUnderlying93 rfl Try.sizeOf3 rfl rfl rfl) rfl ?_
  refine O.q (Qt.ld rfl (Cel.var 0 rfl) (o := 0) (off := 2) rfl (Cut.one Try.isAgg3 rfl)) rfl ?_
  refine O.p (Pu.move rfl) rfl ?_
  refine O.p (Pu.eql rfl rfl) rfl ?_
  refine O.p (Pu.move rfl) rfl ?_
  refine by_bool (decide (e.s = s)) (fun h2 => ?_) (fun h2 => ?_)
  ·
    have p3 := of_decide_eq_true h2
    refine O.gq (t := 9) rfl rfl h2 rfl (Pu.qt (Pu.fieldAddr (off' := 0) Try.runUnderlying93 rfl Try.sizeOf3 rfl rfl rfl)) rfl ?_
    refine O.gq (t := 9) rfl rfl h2 rfl (Qt.ld rfl (Cel.var 0 rfl) (o := 0) (off := 0) rfl (Cut.one Try.isAgg3 rfl)) rfl ?_
    refine O.gq (t := 9) rfl rfl h2 rfl (Pu.qt (Pu.eql rfl rfl)) rfl ?_
    refine O.p (Pu.pickT rfl h2 rfl) rfl ?_
    refine O.p (Pu.move rfl) rfl ?_
    refine by_bool (decide (e.kind = 1)) (fun h4 => ?_) (fun h4 => ?_)
    ·
      have p5 := of_decide_eq_true h4
      refine O.gq (t := 14) rfl rfl h4 rfl (Pu.qt (Pu.fieldAddr (off' := 4) Try.runUnderlying93 rfl Try.sizeOf3 rfl rfl rfl)) rfl ?_
      refine O.gq (t := 14) rfl rfl h4 rfl (Qt.ld rfl (Cel.var 0 rfl) (o := 0) (off := 4) rfl (Cut.one Try.isAgg3 rfl)) rfl ?_
      refine O.gq (t := 14) rfl rfl h4 rfl (Pu.qt (Pu.eql rfl rfl)) rfl ?_
      refine O.gq (t := 14) rfl rfl h4 rfl (Pu.qt (Pu.move rfl)) rfl ?_
      refine by_bool (decide (e.code = 0)) (fun h6 => ?_) (fun h6 => ?_)
      ·
        have p7 := of_decide_eq_true h6
        refine O.gskip (t := 18) rfl rfl (no_bool (by rw [h6]; decide)) rfl rfl ?_
        refine O.gskip (t := 18) rfl rfl (no_bool (by rw [h6]; decide)) rfl rfl ?_
        refine O.gskip (t := 18) rfl rfl (no_bool (by rw [h6]; decide)) rfl rfl ?_
        refine O.gq (t := 14) rfl rfl h4 rfl (Pu.qt (Pu.pickT rfl h6 rfl)) rfl ?_
        refine O.p (Pu.pickT rfl h4 rfl) rfl ?_
        refine O.p (Pu.assign rfl) rfl ?_
        refine O.nil ?_
        exact J.ret (Fin.ret (rs := [.tmp 4]) rfl [_] ⟨rfl, trivial⟩ [] (by decide) [] rfl ⟨by simp [vOf, Mono.dec, *], rfl⟩)
      ·
        have p8 := of_decide_eq_false h6
        refine O.gq (t := 18) rfl rfl h6 rfl (Pu.qt (Pu.fieldAddr (off' := 4) Try.runUnderlying93 rfl Try.sizeOf3 rfl rfl rfl)) rfl ?_
        refine O.gq (t := 18) rfl rfl h6 rfl (Qt.ld rfl (Cel.var 0 rfl) (o := 0) (off := 4) rfl (Cut.one Try.isAgg3 rfl)) rfl ?_
        refine O.gq (t := 18) rfl rfl h6 rfl (Pu.qt (Pu.eql rfl rfl)) rfl ?_
        refine O.gq (t := 14) rfl rfl h4 rfl (Pu.qt (Pu.pickF rfl h6 rfl)) rfl ?_
        refine O.p (Pu.pickT rfl h4 rfl) rfl ?_
        refine O.p (Pu.assign rfl) rfl ?_
        refine O.nil ?_
        exact J.ret (Fin.ret (rs := [.tmp 4]) rfl [_] ⟨rfl, trivial⟩ [] (by decide) [] rfl ⟨by simp [vOf, Mono.dec, *], rfl⟩)
    ·
      have p9 := of_decide_eq_false h4
      refine O.gskip (t := 14) rfl rfl (no_bool (by rw [h4]; decide)) rfl rfl ?_
      refine O.gskip (t := 14) rfl rfl (no_bool (by rw [h4]; decide)) rfl rfl ?_
      refine O.gskip (t := 14) rfl rfl (no_bool (by rw [h4]; decide)) rfl rfl ?_
      refine O.gskip (t := 14) rfl rfl (no_bool (by rw [h4]; decide)) rfl rfl ?_
      refine O.gskip (t := 18) rfl rfl (no_undef _) rfl rfl ?_
      refine O.gskip (t := 18) rfl rfl (no_undef _) rfl rfl ?_
      refine O.gskip (t := 18) rfl rfl (no_undef _) rfl rfl ?_
      refine O.gskip (t := 14) rfl rfl (no_bool (by rw [h4]; decide)) rfl rfl ?_
      refine O.p (Pu.pickF rfl h4 rfl) rfl ?_
      refine O.p (Pu.assign rfl) rfl ?_
      refine O.nil ?_
      exact J.ret (Fin.ret (rs := [.tmp 4]) rfl [_] ⟨rfl, trivial⟩ [] (by decide) [] rfl ⟨by simp [vOf, Mono.dec, *], rfl⟩)
  ·
    have p10 := of_decide_eq_false h2
    refine O.gskip (t := 9) rfl rfl (no_bool (by rw [h2]; decide)) rfl rfl ?_
    refine O.gskip (t := 9) rfl rfl (no_bool (by rw [h2]; decide)) rfl rfl ?_
    refine O.gskip (t := 9) rfl rfl (no_bool (by rw [h2]; decide)) rfl rfl ?_
    refine O.p (Pu.pickF rfl h2 rfl) rfl ?_
    refine O.p (Pu.move rfl) rfl ?_
    refine O.gskip (t := 14) rfl rfl (no_bool (by decide)) rfl rfl ?_
    refine O.gskip (t := 14) rfl rfl (no_bool (by decide)) rfl rfl ?_
    refine O.gskip (t := 14) rfl rfl (no_bool (by decide)) rfl rfl ?_
    refine O.gskip (t := 14) rfl rfl (no_bool (by decide)) rfl rfl ?_
    refine O.gskip (t := 18) rfl rfl (no_undef _) rfl rfl ?_
    refine O.gskip (t := 18) rfl rfl (no_undef _) rfl rfl ?_
    refine O.gskip (t := 18) rfl rfl (no_undef _) rfl rfl ?_
    refine O.gskip (t := 14) rfl rfl (no_bool (by decide)) rfl rfl ?_
    refine O.p (Pu.pickF rfl rfl rfl) rfl ?_
    refine O.p (Pu.assign rfl) rfl ?_
    refine O.nil ?_
    exact J.ret (Fin.ret (rs := [.tmp 4]) rfl [_] ⟨rfl, trivial⟩ [] (by decide) [] rfl ⟨by simp [vOf, Mono.dec, *], rfl⟩)

set_option maxRecDepth 100000 in
theorem r42_ends (e : Ev) (s : Int) : Tri Try.prog 56 #[.agg #[.int .i64 e.kind, .int .i64 e.tick, .int .i64 e.s, .int .i64 e.id, .int .i64 e.code, .int .i64 e.a, .int .i64 e.b], .int .i64 s] [] [] (fun v L' => v = .bool (decide (e.s = s) && Mono.ends e) ∧ L' = []) := by
  refine Tri.enter (args := [.agg #[.int .i64 e.kind, .int .i64 e.tick, .int .i64 e.s, .int .i64 e.id, .int .i64 e.code, .int .i64 e.a, .int .i64 e.b], .int .i64 s]) (body := _) 24 Try.func56 rfl Try.ntmps56 rfl ?_
  intro w0
  refine J.seq ?_
  refine J.region ?_
  refine O.l (Lo.box [.int .i64 e.kind, .int .i64 e.tick, .int .i64 e.s, .int .i64 e.id, .int .i64 e.code, .int .i64 e.a, .int .i64 e.b] rfl rfl) rfl ?_
  rintro _ _ ⟨g1, rfl, rfl⟩
  refine O.p (Pu.assign rfl) rfl ?_
  refine O.nil ?_
  refine J.seq ?_
  refine J.region ?_
  refine O.p (Pu.fieldAddr (off' := 2) Try.runUnderlying93 rfl Try.sizeOf3 rfl rfl rfl) rfl ?_
  refine O.q (Qt.ld rfl (Cel.var 0 rfl) (o := 0) (off := 2) rfl (Cut.one Try.isAgg3 rfl)) rfl ?_
  refine O.p (Pu.move rfl) rfl ?_
  refine O.p (Pu.eql rfl rfl) rfl ?_
  refine O.p (Pu.move rfl) rfl ?_
  refine by_bool (decide (e.s = s)) (fun h2 => ?_) (fun h2 => ?_)
  ·
    have p3 := of_decide_eq_true h2
    refine O.gq (t := 9) rfl rfl h2 rfl (Pu.qt (Pu.fieldAddr (off' := 0) Try.runUnderlying93 rfl Try.sizeOf3 rfl rfl rfl)) rfl ?_
    refine O.gq (t := 9) rfl rfl h2 rfl (Qt.ld rfl (Cel.var 0 rfl) (o := 0) (off := 0) rfl (Cut.one Try.isAgg3 rfl)) rfl ?_
    refine O.gq (t := 9) rfl rfl h2 rfl (Pu.qt (Pu.eql rfl rfl)) rfl ?_
    refine O.gq (t := 9) rfl rfl h2 rfl (Pu.qt (Pu.move rfl)) rfl ?_
    refine by_bool (decide (e.kind = 9)) (fun h4 => ?_) (fun h4 => ?_)
    ·
      have p5 := of_decide_eq_true h4
      refine O.gskip (t := 13) rfl rfl (no_bool (by rw [h4]; decide)) rfl rfl ?_
      refine O.gskip (t := 13) rfl rfl (no_bool (by rw [h4]; decide)) rfl rfl ?_
      refine O.gskip (t := 13) rfl rfl (no_bool (by rw [h4]; decide)) rfl rfl ?_
      refine O.gq (t := 9) rfl rfl h2 rfl (Pu.qt (Pu.pickT rfl h4 rfl)) rfl ?_
      refine O.gq (t := 9) rfl rfl h2 rfl (Pu.qt (Pu.move rfl)) rfl ?_
      refine O.gskip (t := 18) rfl rfl (no_bool (by decide)) rfl rfl ?_
      refine O.gskip (t := 18) rfl rfl (no_bool (by decide)) rfl rfl ?_
      refine O.gskip (t := 18) rfl rfl (no_bool (by decide)) rfl rfl ?_
      refine O.gq (t := 9) rfl rfl h2 rfl (Pu.qt (Pu.pickT rfl rfl rfl)) rfl ?_
      refine O.p (Pu.pickT rfl h2 rfl) rfl ?_
      refine O.p (Pu.assign rfl) rfl ?_
      refine O.nil ?_
      exact J.ret (Fin.ret (rs := [.tmp 4]) rfl [_] ⟨rfl, trivial⟩ [] (by decide) [] rfl ⟨by simp [vOf, Mono.ends, *], rfl⟩)
    ·
      have p6 := of_decide_eq_false h4
      refine O.gq (t := 13) rfl rfl h4 rfl (Pu.qt (Pu.fieldAddr (off' := 0) Try.runUnderlying93 rfl Try.sizeOf3 rfl rfl rfl)) rfl ?_
      refine O.gq (t := 13) rfl rfl h4 rfl (Qt.ld rfl (Cel.var 0 rfl) (o := 0) (off := 0) rfl (Cut.one Try.isAgg3 rfl)) rfl ?_
      refine O.gq (t := 13) rfl rfl h4 rfl (Pu.qt (Pu.eql rfl rfl)) rfl ?_
      refine O.gq (t := 9) rfl rfl h2 rfl (Pu.qt (Pu.pickF rfl h4 rfl)) rfl ?_
      refine O.gq (t := 9) rfl rfl h2 rfl (Pu.qt (Pu.move rfl)) rfl ?_
      refine by_bool (decide (e.kind = 11)) (fun h7 => ?_) (fun h7 => ?_)
      ·
        have p8 := of_decide_eq_true h7
        refine O.gskip (t := 18) rfl rfl (no_bool (by rw [h7]; decide)) rfl rfl ?_
        refine O.gskip (t := 18) rfl rfl (no_bool (by rw [h7]; decide)) rfl rfl ?_
        refine O.gskip (t := 18) rfl rfl (no_bool (by rw [h7]; decide)) rfl rfl ?_
        refine O.gq (t := 9) rfl rfl h2 rfl (Pu.qt (Pu.pickT rfl h7 rfl)) rfl ?_
        refine O.p (Pu.pickT rfl h2 rfl) rfl ?_
        refine O.p (Pu.assign rfl) rfl ?_
        refine O.nil ?_
        exact J.ret (Fin.ret (rs := [.tmp 4]) rfl [_] ⟨rfl, trivial⟩ [] (by decide) [] rfl ⟨by simp [vOf, Mono.ends, *], rfl⟩)
      ·
        have p9 := of_decide_eq_false h7
        refine O.gq (t := 18) rfl rfl h7 rfl (Pu.qt (Pu.fieldAddr (off' := 0) Try.runUnderlying93 rfl Try.sizeOf3 rfl rfl rfl)) rfl ?_
        refine O.gq (t := 18) rfl rfl h7 rfl (Qt.ld rfl (Cel.var 0 rfl) (o := 0) (off := 0) rfl (Cut.one Try.isAgg3 rfl)) rfl ?_
        refine O.gq (t := 18) rfl rfl h7 rfl (Pu.qt (Pu.eql rfl rfl)) rfl ?_
        refine O.gq (t := 9) rfl rfl h2 rfl (Pu.qt (Pu.pickF rfl h7 rfl)) rfl ?_
        refine O.p (Pu.pickT rfl h2 rfl) rfl ?_
        refine O.p (Pu.assign rfl) rfl ?_
        refine O.nil ?_
        exact J.ret (Fin.ret (rs := [.tmp 4]) rfl [_] ⟨rfl, trivial⟩ [] (by decide) [] rfl ⟨by simp [vOf, Mono.ends, *], rfl⟩)
  ·
    have p10 := of_decide_eq_false h2
    refine O.gskip (t := 9) rfl rfl (no_bool (by rw [h2]; decide)) rfl rfl ?_
    refine O.gskip (t := 9) rfl rfl (no_bool (by rw [h2]; decide)) rfl rfl ?_
    refine O.gskip (t := 9) rfl rfl (no_bool (by rw [h2]; decide)) rfl rfl ?_
    refine O.gskip (t := 9) rfl rfl (no_bool (by rw [h2]; decide)) rfl rfl ?_
    refine O.gskip (t := 13) rfl rfl (no_undef _) rfl rfl ?_
    refine O.gskip (t := 13) rfl rfl (no_undef _) rfl rfl ?_
    refine O.gskip (t := 13) rfl rfl (no_undef _) rfl rfl ?_
    refine O.gskip (t := 9) rfl rfl (no_bool (by rw [h2]; decide)) rfl rfl ?_
    refine O.gskip (t := 9) rfl rfl (no_bool (by rw [h2]; decide)) rfl rfl ?_
    refine O.gskip (t := 18) rfl rfl (no_undef _) rfl rfl ?_
    refine O.gskip (t := 18) rfl rfl (no_undef _) rfl rfl ?_
    refine O.gskip (t := 18) rfl rfl (no_undef _) rfl rfl ?_
    refine O.gskip (t := 9) rfl rfl (no_bool (by rw [h2]; decide)) rfl rfl ?_
    refine O.p (Pu.pickF rfl h2 rfl) rfl ?_
    refine O.p (Pu.assign rfl) rfl ?_
    refine O.nil ?_
    exact J.ret (Fin.ret (rs := [.tmp 4]) rfl [_] ⟨rfl, trivial⟩ [] (by decide) [] rfl ⟨by simp [vOf, Mono.ends, *], rfl⟩)

set_option maxRecDepth 100000 in
theorem r42_runs (s : Int) (lv : Value) (l : List Ev) (hl : l.length ≤ 100000) : Tri Try.prog 16 #[.int .i64 s, lv] [rd lv 7 (l.map Ev.cells)] [] (fun v L' => L' = [row v 25 4 ((Mono.runs s l).map Run.cells)]) := by
  refine Tri.enter (args := [.int .i64 s, lv]) (body := _) 79 Try.func16 rfl Try.ntmps16 rfl ?_
  intro w0
  refine J.seq ?_
  refine J.region ?_
  refine O.p (Pu.assign rfl) rfl ?_
  refine O.nil ?_
  refine J.seq ?_
  refine J.region ?_
  refine O.p (Pu.assign rfl) rfl ?_
  refine O.nil ?_
  refine J.seq ?_
  refine J.region ?_
  refine O.p (Pu.assign rfl) rfl ?_
  refine O.nil ?_
  refine J.seq ?_
  refine J.seq ?_
  refine J.region ?_
  refine O.p (Pu.assign rfl) rfl ?_
  refine O.nil ?_
  refine J.block ?_
  refine J.nilRow 25 4 ?_
  refine J.loop (X := Nat × Bool × Value × List Run) (fun ξ => ξ.1 ≤ l.length ∧ (ξ.2.2.2, ξ.2.1) = upI (Mono.runF s) ([], false) l ξ.1 ∧ (ξ.2.1 = true → ξ.2.2.2 ≠ []) ∧ ξ.2.2.2.length ≤ ξ.1) (fun ξ => [(0, .int .i64 s), (1, lv), (4, Value.slice none 0 0), (5, ξ.2.2.1), (6, .bool (!ξ.2.1)), (7, .int .i64 (ξ.1 : Int))]) (fun ξ => [row ξ.2.2.1 25 4 (ξ.2.2.2.map Run.cells)]) (fun ξ => l.length - ξ.1) ⟨0, false, Value.slice none 0 0, []⟩ (show 0 ≤ l.length ∧ (([]), false) = upI (Mono.runF s) ([], false) l 0 ∧ (false = true → ([]) ≠ []) ∧ ([]).length ≤ 0 from ⟨by omega, rfl, by simp, by simp⟩) ⟨rfl, rfl, rfl, rfl, rfl, (congrArg (fun z => some (Value.int .i64 z)) (by omega : (0 : Int) = (0 : Int))), trivial⟩ [0] (by decide) rfl ?_
  rintro ⟨k, b, V, out⟩ hq1
  obtain ⟨hk, hst, hne, hlen⟩ : k ≤ l.length ∧ (out, b) = upI (Mono.runF s) ([], false) l k ∧ (b = true → out ≠ []) ∧ out.length ≤ k := hq1
  show J _ _ [(0, .int .i64 s), (1, lv), (4, Value.slice none 0 0), (5, V), (6, .bool (!b)), (7, .int .i64 (k : Int))] [row V 25 4 (out.map Run.cells)]
  refine J.seq ?_
  refine J.seq ?_
  refine J.region ?_
  refine O.p (Pu.move rfl) rfl ?_
  refine O.p (Pu.move rfl) rfl ?_
  refine O.q (Qt.lenM Try.runUnderlying22 rfl (Src.ro 0 rfl)) rfl ?_
  refine O.p (Pu.lss rfl rfl) rfl ?_
  refine O.nil ?_
  refine J.cond rfl (fun h2 => ?_) (fun h2 => ?_)
  ·
    have p3 := of_decide_eq_true h2
    refine J.skip ?_
    refine J.seq ?_
    refine J.block ?_
    refine J.seq ?_
    refine J.seq ?_
    refine J.region ?_
    refine O.p (Pu.move rfl) rfl ?_
    refine O.p (Pu.move rfl) rfl ?_
    obtain ⟨e4, he4⟩ : ∃ e, l[k]? = some e := ⟨_, List.getElem?_eq_getElem (by (try simp only [List.length_append, List.length_cons, List.length_nil, List.length_set]) <;> first | omega | (have hne1 := List.length_pos_iff.2 (hne rfl); omega))⟩
    refine O.q (Qt.idxM Try.runUnderlying22 Try.sizeOf93 rfl (Src.ro 0 rfl) rfl (by (try simp only [List.length_append, List.length_cons, List.length_nil, List.length_set]) <;> first | omega | (have hne1 := List.length_pos_iff.2 (hne rfl); omega)) (by (try simp only [List.length_append, List.length_cons, List.length_nil, List.length_set]) <;> first | omega | (have hne1 := List.length_pos_iff.2 (hne rfl); omega))) rfl ?_
    refine O.q (Qt.ld rfl (Cel.eltM (Src.ro 0 rfl) he4) (o := (voff lv + k * 7)) (off := 0) (by omega) (Cut.agg [.int .i64 e4.kind, .int .i64 e4.tick, .int .i64 e4.s, .int .i64 e4.id, .int .i64 e4.code, .int .i64 e4.a, .int .i64 e4.b] Try.isAgg93 Try.sizeOf93 rfl rfl)) rfl ?_
    refine O.p (Pu.move rfl) rfl ?_
    refine O.l (Lo.call [.agg #[.int .i64 e4.kind, .int .i64 e4.tick, .int .i64 e4.s, .int .i64 e4.id, .int .i64 e4.code, .int .i64 e4.a, .int .i64 e4.b], .int .i64 s] (by exact Try.call56) rfl (r42_ends e4 s) [] [0] (by decide) rfl _ rfl RoOk.nil) rfl ?_
    rintro _ _ ⟨_, ⟨rfl, rfl⟩, rfl⟩
    refine O.nil ?_
    refine J.cond rfl (fun h6 => ?_) (fun h6 => ?_)
    ·
      refine J.region ?_
      refine O.p (Pu.assign rfl) rfl ?_
      refine O.nil ?_
      refine J.seq ?_
      refine J.seq ?_
      refine J.region ?_
      refine O.p (Pu.move rfl) rfl ?_
      refine O.p (Pu.move rfl) rfl ?_
      refine O.q (Qt.idxM Try.runUnderlying22 Try.sizeOf93 rfl (Src.ro 0 rfl) rfl (by (try simp only [List.length_append, List.length_cons, List.length_nil, List.length_set]) <;> first | omega | (have hne1 := List.length_pos_iff.2 (hne rfl); omega)) (by (try simp only [List.length_append, List.length_cons, List.length_nil, List.length_set]) <;> first | omega | (have hne1 := List.length_pos_iff.2 (hne rfl); omega))) rfl ?_
      refine O.q (Qt.ld rfl (Cel.eltM (Src.ro 0 rfl) he4) (o := (voff lv + k * 7)) (off := 0) (by omega) (Cut.agg [.int .i64 e4.kind, .int .i64 e4.tick, .int .i64 e4.s, .int .i64 e4.id, .int .i64 e4.code, .int .i64 e4.a, .int .i64 e4.b] Try.isAgg93 Try.sizeOf93 rfl rfl)) rfl ?_
      refine O.p (Pu.move rfl) rfl ?_
      refine O.l (Lo.call [.agg #[.int .i64 e4.kind, .int .i64 e4.tick, .int .i64 e4.s, .int .i64 e4.id, .int .i64 e4.code, .int .i64 e4.a, .int .i64 e4.b], .int .i64 s] (by exact Try.call52) rfl (r42_decision e4 s) [] [0] (by decide) rfl _ rfl RoOk.nil) rfl ?_
      rintro _ _ ⟨_, ⟨rfl, rfl⟩, rfl⟩
      refine O.p (Pu.not rfl) rfl ?_
      refine O.nil ?_
      refine J.cond rfl (fun h8 => ?_) (fun h8 => ?_)
      ·
        have h9 : (decide (e4.s = s) && Mono.dec e4) = false := not_flip h8
        refine J.exit _ rfl ?_
        refine J.region ?_
        refine O.p (Pu.move rfl) rfl ?_
        refine O.p (Pu.add' rfl rfl (by first | omega | (simp only [List.length_append, List.length_cons, List.length_nil, List.length_set]; omega))) rfl ?_
        refine O.p (Pu.assign rfl) rfl ?_
        refine O.nil ?_
        exact J.lp ⟨k + 1, false, V, out⟩ (show (k + 1) ≤ l.length ∧ (out, false) = upI (Mono.runF s) ([], false) l (k + 1) ∧ (false = true → out ≠ []) ∧ out.length ≤ (k + 1) from ⟨by omega, (by rw [upI_succ (by assumption), ← hst]; simp_all [Mono.runF]), (by first | exact hne | simp), by omega⟩) (show l.length - (k + 1) < l.length - k from (by (try simp only [List.length_append, List.length_cons, List.length_nil, List.length_set]) <;> first | omega | (have hne1 := List.length_pos_iff.2 (hne rfl); omega))) ⟨rfl, rfl, rfl, rfl, rfl, (congrArg (fun z => some (Value.int .i64 z)) (by omega : ((k : Int) + 1 : Int) = ((k + 1) : Int))), trivial⟩ [0] (by decide) rfl
      ·
        have h10 : (decide (e4.s = s) && Mono.dec e4) = true := not_flip h8
        exact (Mono.ends_dec2 h6 h10).elim
    ·
      refine J.skip ?_
      refine J.seq ?_
      refine J.seq ?_
      refine J.region ?_
      refine O.p (Pu.move rfl) rfl ?_
      refine O.p (Pu.move rfl) rfl ?_
      refine O.q (Qt.idxM Try.runUnderlying22 Try.sizeOf93 rfl (Src.ro 0 rfl) rfl (by (try simp only [List.length_append, List.length_cons, List.length_nil, List.length_set]) <;> first | omega | (have hne1 := List.length_pos_iff.2 (hne rfl); omega)) (by (try simp only [List.length_append, List.length_cons, List.length_nil, List.length_set]) <;> first | omega | (have hne1 := List.length_pos_iff.2 (hne rfl); omega))) rfl ?_
      refine O.q (Qt.ld rfl (Cel.eltM (Src.ro 0 rfl) he4) (o := (voff lv + k * 7)) (off := 0) (by omega) (Cut.agg [.int .i64 e4.kind, .int .i64 e4.tick, .int .i64 e4.s, .int .i64 e4.id, .int .i64 e4.code, .int .i64 e4.a, .int .i64 e4.b] Try.isAgg93 Try.sizeOf93 rfl rfl)) rfl ?_
      refine O.p (Pu.move rfl) rfl ?_
      refine O.l (Lo.call [.agg #[.int .i64 e4.kind, .int .i64 e4.tick, .int .i64 e4.s, .int .i64 e4.id, .int .i64 e4.code, .int .i64 e4.a, .int .i64 e4.b], .int .i64 s] (by exact Try.call52) rfl (r42_decision e4 s) [] [0] (by decide) rfl _ rfl RoOk.nil) rfl ?_
      rintro _ _ ⟨_, ⟨rfl, rfl⟩, rfl⟩
      refine O.p (Pu.not rfl) rfl ?_
      refine O.nil ?_
      refine J.cond rfl (fun h12 => ?_) (fun h12 => ?_)
      ·
        have h13 : (decide (e4.s = s) && Mono.dec e4) = false := not_flip h12
        refine J.exit _ rfl ?_
        refine J.region ?_
        refine O.p (Pu.move rfl) rfl ?_
        refine O.p (Pu.add' rfl rfl (by first | omega | (simp only [List.length_append, List.length_cons, List.length_nil, List.length_set]; omega))) rfl ?_
        refine O.p (Pu.assign rfl) rfl ?_
        refine O.nil ?_
        exact J.lp ⟨k + 1, b, V, out⟩ (show (k + 1) ≤ l.length ∧ (out, b) = upI (Mono.runF s) ([], false) l (k + 1) ∧ (b = true → out ≠ []) ∧ out.length ≤ (k + 1) from ⟨by omega, (by rw [upI_succ (by assumption), ← hst]; simp_all [Mono.runF]), (by first | exact hne | simp), by omega⟩) (show l.length - (k + 1) < l.length - k from (by (try simp only [List.length_append, List.length_cons, List.length_nil, List.length_set]) <;> first | omega | (have hne1 := List.length_pos_iff.2 (hne rfl); omega))) ⟨rfl, rfl, rfl, rfl, rfl, (congrArg (fun z => some (Value.int .i64 z)) (by omega : ((k : Int) + 1 : Int) = ((k + 1) : Int))), trivial⟩ [0] (by decide) rfl
      ·
        have h14 : (decide (e4.s = s) && Mono.dec e4) = true := not_flip h12
        refine J.skip ?_
        refine J.seq ?_
        refine J.seq ?_
        refine J.region ?_
        refine O.p (Pu.move rfl) rfl ?_
        refine O.nil ?_
        refine J.cond rfl (fun h15 => ?_) (fun h15 => ?_)
        ·
          have h16 : b = false := not_flip h15
          subst h16
          refine J.seq ?_
          refine J.region ?_
          refine O.p (Pu.move rfl) rfl ?_
          refine O.p (Pu.move rfl) rfl ?_
          refine O.p (Pu.build [(0, .int .i64 (k : Int)), (2, .int .i64 (-1)), (3, .int .i64 128)] [.int .i64 (k : Int), .int .i64 0, .int .i64 (-1), .int .i64 128] #[(0, 1), (1, 1), (2, 1), (3, 1)] Try.runUnderlying25 Try.zeroValue25 (places25 Try.underlying25) rfl (by kernel_rfl)) rfl ?_
          refine O.l (Lo.buildM (s := 4) Run.cells [(⟨(k : Int), 0, -1, 128⟩ : Run)] [(0, .agg #[.int .i64 (k : Int), .int .i64 0, .int .i64 (-1), .int .i64 128])] (by exact Try.runUnderlying36) (by exact Try.sizeOf25) (by exact Try.zeroValue25) rfl rfl rfl (by kernel_rfl) rfl rfl) rfl ?_
          rintro V17 _ rfl
          refine O.l (Lo.appendM (s := 4) 1 (by exact Try.underlying36) (by exact (info25).1) (by exact (info25).2.1) (by exact (info25).2.2.1) (by exact (info25).2.2.2) rfl rfl rfl rfl rfl (Src.row 0 rfl) Run.one (by (try simp only [List.length_append, List.length_cons, List.length_nil, List.length_set]) <;> first | omega | (have hne1 := List.length_pos_iff.2 (hne rfl); omega)) (by (try simp only [List.length_append, List.length_cons, List.length_nil, List.length_set]) <;> first | omega | (have hne1 := List.length_pos_iff.2 (hne rfl); omega))) rfl ?_
          rintro V18 _ rfl
          refine O.p (Pu.assign rfl) rfl ?_
          refine O.nil ?_
          refine J.region ?_
          refine O.p (Pu.assign rfl) rfl ?_
          refine O.nil ?_
          refine J.seq ?_
          refine J.region ?_
          refine O.p (Pu.move rfl) rfl ?_
          refine O.q (Qt.lenM Try.runUnderlying36 rfl (Src.row 1 rfl)) rfl ?_
          refine O.p (Pu.sub' rfl rfl (by first | omega | (simp only [List.length_append, List.length_cons, List.length_nil, List.length_set]; omega))) rfl ?_
          refine O.p (Pu.assign rfl) rfl ?_
          refine O.nil ?_
          refine J.seq ?_
          refine J.region ?_
          refine O.p (Pu.move rfl) rfl ?_
          refine O.p (Pu.move rfl) rfl ?_
          refine O.p (Pu.move rfl) rfl ?_
          obtain ⟨e19, he19⟩ : ∃ e, (out ++ ([(⟨(k : Int), 0, -1, 128⟩ : Run)]))[((out ++ ([(⟨(k : Int), 0, -1, 128⟩ : Run)])).length - 1)]? = some e := ⟨_, List.getElem?_eq_getElem (by (try simp only [List.length_append, List.length_cons, List.length_nil, List.length_set]) <;> first | omega | (have hne1 := List.length_pos_iff.2 (hne rfl); omega))⟩
          refine O.q (Qt.idxM Try.runUnderlying36 Try.sizeOf25 rfl (Src.row 1 rfl) rfl (by (try simp only [List.length_append, List.length_cons, List.length_nil, List.length_set]) <;> first | omega | (have hne1 := List.length_pos_iff.2 (hne rfl); omega)) (by (try simp only [List.length_append, List.length_cons, List.length_nil, List.length_set]) <;> first | omega | (have hne1 := List.length_pos_iff.2 (hne rfl); omega))) rfl ?_
          refine O.p (Pu.fieldAddr (off' := voff V18 + (((out ++ ([(⟨(k : Int), 0, -1, 128⟩ : Run)])).length : Int) - 1).toNat * 4 + 1) Try.runUnderlying25 rfl Try.sizeOf3 rfl rfl rfl) rfl ?_
          refine O.l0 (Lo.storeM 1 (j := ((out ++ ([(⟨(k : Int), 0, -1, 128⟩ : Run)])).length - 1)) (off := 1) (vs := [.int .i64 (k : Int)]) (e := [.int .i64 e19.frm, .int .i64 e19.to, .int .i64 e19.pass, .int .i64 e19.stop]) ({ e19 with to := (k : Int) }) rfl rfl rfl rfl (by omega) he19 rfl (by exact Try.sizeOf3) rfl rfl rfl rfl rfl) ?_
          rintro _ _ rfl
          have hs20 : ((out ++ ([(⟨(k : Int), 0, -1, 128⟩ : Run)])).set ((out ++ ([(⟨(k : Int), 0, -1, 128⟩ : Run)])).length - 1) ({ e19 with to := (k : Int) }))[((out ++ ([(⟨(k : Int), 0, -1, 128⟩ : Run)])).length - 1)]? = some ({ e19 with to := (k : Int) }) := List.getElem?_set_self (List.getElem?_eq_some_iff.1 he19).1
          refine O.nil ?_
          refine J.seq ?_
          refine J.region ?_
          refine O.p (Pu.move rfl) rfl ?_
          refine O.p (Pu.move rfl) rfl ?_
          refine O.q (Qt.idxM Try.runUnderlying22 Try.sizeOf93 rfl (Src.ro 0 rfl) rfl (by (try simp only [List.length_append, List.length_cons, List.length_nil, List.length_set]) <;> first | omega | (have hne1 := List.length_pos_iff.2 (hne rfl); omega)) (by (try simp only [List.length_append, List.length_cons, List.length_nil, List.length_set]) <;> first | omega | (have hne1 := List.length_pos_iff.2 (hne rfl); omega))) rfl ?_
          refine O.p (Pu.fieldAddr (off' := voff lv + ((k : Int)).toNat * 7 + 4) Try.runUnderlying93 rfl Try.sizeOf3 rfl rfl rfl) rfl ?_
          refine O.q (Qt.ld rfl (Cel.eltM (Src.ro 0 rfl) he4) (o := (voff lv + k * 7)) (off := 4) (by omega) (Cut.one Try.isAgg3 rfl)) rfl ?_
          refine O.p (Pu.eql rfl rfl) rfl ?_
          refine O.nil ?_
          refine J.cond rfl (fun h21 => ?_) (fun h21 => ?_)
          ·
            have p22 := of_decide_eq_true h21
            refine J.drawTail 15 Try.mixed (by kernel_rfl) ?_
            refine S.p (Pu.move rfl) rfl ?_
            refine S.p (Pu.move rfl) rfl ?_
            refine S.p (Pu.move rfl) rfl ?_
            refine S.p (Pu.move rfl) rfl ?_
            refine S.q (Qt.idxM Try.runUnderlying36 Try.sizeOf25 rfl (Src.row 1 rfl) rfl (by (try simp only [List.length_append, List.length_cons, List.length_nil, List.length_set]) <;> first | omega | (have hne1 := List.length_pos_iff.2 (hne rfl); omega)) (by (try simp only [List.length_append, List.length_cons, List.length_nil, List.length_set]) <;> first | omega | (have hne1 := List.length_pos_iff.2 (hne rfl); omega))) rfl ?_
            refine S.p (Pu.fieldAddr (off' := voff V18 + (((out ++ ([(⟨(k : Int), 0, -1, 128⟩ : Run)])).length : Int) - 1).toNat * 4 + 2) Try.runUnderlying25 rfl Try.sizeOf3 rfl rfl rfl) rfl ?_
            refine S.q (Qt.ld rfl (Cel.eltM (Src.row 1 rfl) hs20) (o := (voff V18 + ((out ++ ([(⟨(k : Int), 0, -1, 128⟩ : Run)])).length - 1) * 4)) (off := 2) (by omega) (Cut.one Try.isAgg3 rfl)) rfl ?_
            refine S.p (Pu.move rfl) rfl ?_
            refine S.p (Pu.move rfl) rfl ?_
            refine S.q (Qt.idxM Try.runUnderlying22 Try.sizeOf93 rfl (Src.ro 0 rfl) rfl (by (try simp only [List.length_append, List.length_cons, List.length_nil, List.length_set]) <;> first | omega | (have hne1 := List.length_pos_iff.2 (hne rfl); omega)) (by (try simp only [List.length_append, List.length_cons, List.length_nil, List.length_set]) <;> first | omega | (have hne1 := List.length_pos_iff.2 (hne rfl); omega))) rfl ?_
            refine S.p (Pu.fieldAddr (off' := voff lv + ((k : Int)).toNat * 7 + 5) Try.runUnderlying93 rfl Try.sizeOf3 rfl rfl rfl) rfl ?_
            refine S.q (Qt.ld rfl (Cel.eltM (Src.ro 0 rfl) he4) (o := (voff lv + k * 7)) (off := 5) (by omega) (Cut.one Try.isAgg3 rfl)) rfl ?_
            refine S.p (Pu.max rfl rfl) rfl ?_
            refine S.q (Qt.idxM Try.runUnderlying36 Try.sizeOf25 rfl (Src.row 1 rfl) rfl (by (try simp only [List.length_append, List.length_cons, List.length_nil, List.length_set]) <;> first | omega | (have hne1 := List.length_pos_iff.2 (hne rfl); omega)) (by (try simp only [List.length_append, List.length_cons, List.length_nil, List.length_set]) <;> first | omega | (have hne1 := List.length_pos_iff.2 (hne rfl); omega))) rfl ?_
            refine S.p (Pu.fieldAddr (off' := voff V18 + (((out ++ ([(⟨(k : Int), 0, -1, 128⟩ : Run)])).length : Int) - 1).toNat * 4 + 2) Try.runUnderlying25 rfl Try.sizeOf3 rfl rfl rfl) rfl ?_
            refine S.endO ?_
            refine O.l0 (Lo.storeM 1 (j := ((out ++ ([(⟨(k : Int), 0, -1, 128⟩ : Run)])).length - 1)) (off := 2) (vs := [.int .i64 (if e4.a > (({ e19 with to := (k : Int) }).pass) then e4.a else (({ e19 with to := (k : Int) }).pass))]) (e := [.int .i64 (({ e19 with to := (k : Int) }).frm), .int .i64 (({ e19 with to := (k : Int) }).to), .int .i64 (({ e19 with to := (k : Int) }).pass), .int .i64 (({ e19 with to := (k : Int) }).stop)]) ({ { e19 with to := (k : Int) } with pass := if e4.a > (({ e19 with to := (k : Int) }).pass) then e4.a else (({ e19 with to := (k : Int) }).pass) }) rfl rfl rfl rfl (by omega) hs20 rfl (by exact Try.sizeOf3) rfl rfl rfl rfl rfl) ?_
            rintro _ _ rfl
            have hs23 : (((out ++ ([(⟨(k : Int), 0, -1, 128⟩ : Run)])).set ((out ++ ([(⟨(k : Int), 0, -1, 128⟩ : Run)])).length - 1) ({ e19 with to := (k : Int) })).set ((out ++ ([(⟨(k : Int), 0, -1, 128⟩ : Run)])).length - 1) ({ { e19 with to := (k : Int) } with pass := if e4.a > (({ e19 with to := (k : Int) }).pass) then e4.a else (({ e19 with to := (k : Int) }).pass) }))[((out ++ ([(⟨(k : Int), 0, -1, 128⟩ : Run)])).length - 1)]? = some ({ { e19 with to := (k : Int) } with pass := if e4.a > (({ e19 with to := (k : Int) }).pass) then e4.a else (({ e19 with to := (k : Int) }).pass) }) := List.getElem?_set_self (List.getElem?_eq_some_iff.1 hs20).1
            refine O.nil ?_
            refine J.blk ?_
            refine J.region ?_
            refine O.p (Pu.move rfl) rfl ?_
            refine O.p (Pu.add' rfl rfl (by first | omega | (simp only [List.length_append, List.length_cons, List.length_nil, List.length_set]; omega))) rfl ?_
            refine O.p (Pu.assign rfl) rfl ?_
            refine O.nil ?_
            exact J.lp ⟨k + 1, true, V18, ((out ++ ([(⟨(k : Int), 0, -1, 128⟩ : Run)])).set ((out ++ ([(⟨(k : Int), 0, -1, 128⟩ : Run)])).length - 1) ({ e19 with to := (k : Int) })).set ((out ++ ([(⟨(k : Int), 0, -1, 128⟩ : Run)])).length - 1) ({ { e19 with to := (k : Int) } with pass := if e4.a > (({ e19 with to := (k : Int) }).pass) then e4.a else (({ e19 with to := (k : Int) }).pass) })⟩ (show (k + 1) ≤ l.length ∧ ((((out ++ ([(⟨(k : Int), 0, -1, 128⟩ : Run)])).set ((out ++ ([(⟨(k : Int), 0, -1, 128⟩ : Run)])).length - 1) ({ e19 with to := (k : Int) })).set ((out ++ ([(⟨(k : Int), 0, -1, 128⟩ : Run)])).length - 1) ({ { e19 with to := (k : Int) } with pass := if e4.a > (({ e19 with to := (k : Int) }).pass) then e4.a else (({ e19 with to := (k : Int) }).pass) })), true) = upI (Mono.runF s) ([], false) l (k + 1) ∧ (true = true → (((out ++ ([(⟨(k : Int), 0, -1, 128⟩ : Run)])).set ((out ++ ([(⟨(k : Int), 0, -1, 128⟩ : Run)])).length - 1) ({ e19 with to := (k : Int) })).set ((out ++ ([(⟨(k : Int), 0, -1, 128⟩ : Run)])).length - 1) ({ { e19 with to := (k : Int) } with pass := if e4.a > (({ e19 with to := (k : Int) }).pass) then e4.a else (({ e19 with to := (k : Int) }).pass) })) ≠ []) ∧ (((out ++ ([(⟨(k : Int), 0, -1, 128⟩ : Run)])).set ((out ++ ([(⟨(k : Int), 0, -1, 128⟩ : Run)])).length - 1) ({ e19 with to := (k : Int) })).set ((out ++ ([(⟨(k : Int), 0, -1, 128⟩ : Run)])).length - 1) ({ { e19 with to := (k : Int) } with pass := if e4.a > (({ e19 with to := (k : Int) }).pass) then e4.a else (({ e19 with to := (k : Int) }).pass) })).length ≤ (k + 1) from (Mono.note_next hk (by omega) hst hne hlen (by assumption) (by simp_all) (by simp_all) (by simp_all) (Mono.note_fin (by simp [Mono.opened]) rfl (by assumption) _ (by simp [Mono.put, *])))) (show l.length - (k + 1) < l.length - k from (by (try simp only [List.length_append, List.length_cons, List.length_nil, List.length_set]) <;> first | omega | (have hne1 := List.length_pos_iff.2 (hne rfl); omega))) ⟨rfl, rfl, rfl, rfl, rfl, (congrArg (fun z => some (Value.int .i64 z)) (by omega : ((k : Int) + 1 : Int) = ((k + 1) : Int))), trivial⟩ [1] (by decide) rfl
          ·
            have p24 := of_decide_eq_false h21
            refine J.drawTail 15 Try.mixed (by kernel_rfl) ?_
            refine S.p (Pu.move rfl) rfl ?_
            refine S.p (Pu.move rfl) rfl ?_
            refine S.p (Pu.move rfl) rfl ?_
            refine S.p (Pu.move rfl) rfl ?_
            refine S.q (Qt.idxM Try.runUnderlying36 Try.sizeOf25 rfl (Src.row 1 rfl) rfl (by (try simp only [List.length_append, List.length_cons, List.length_nil, List.length_set]) <;> first | omega | (have hne1 := List.length_pos_iff.2 (hne rfl); omega)) (by (try simp only [List.length_append, List.length_cons, List.length_nil, List.length_set]) <;> first | omega | (have hne1 := List.length_pos_iff.2 (hne rfl); omega))) rfl ?_
            refine S.p (Pu.fieldAddr (off' := voff V18 + (((out ++ ([(⟨(k : Int), 0, -1, 128⟩ : Run)])).length : Int) - 1).toNat * 4 + 3) Try.runUnderlying25 rfl Try.sizeOf3 rfl rfl rfl) rfl ?_
            refine S.q (Qt.ld rfl (Cel.eltM (Src.row 1 rfl) hs20) (o := (voff V18 + ((out ++ ([(⟨(k : Int), 0, -1, 128⟩ : Run)])).length - 1) * 4)) (off := 3) (by omega) (Cut.one Try.isAgg3 rfl)) rfl ?_
            refine S.p (Pu.move rfl) rfl ?_
            refine S.p (Pu.move rfl) rfl ?_
            refine S.q (Qt.idxM Try.runUnderlying22 Try.sizeOf93 rfl (Src.ro 0 rfl) rfl (by (try simp only [List.length_append, List.length_cons, List.length_nil, List.length_set]) <;> first | omega | (have hne1 := List.length_pos_iff.2 (hne rfl); omega)) (by (try simp only [List.length_append, List.length_cons, List.length_nil, List.length_set]) <;> first | omega | (have hne1 := List.length_pos_iff.2 (hne rfl); omega))) rfl ?_
            refine S.p (Pu.fieldAddr (off' := voff lv + ((k : Int)).toNat * 7 + 5) Try.runUnderlying93 rfl Try.sizeOf3 rfl rfl rfl) rfl ?_
            refine S.q (Qt.ld rfl (Cel.eltM (Src.ro 0 rfl) he4) (o := (voff lv + k * 7)) (off := 5) (by omega) (Cut.one Try.isAgg3 rfl)) rfl ?_
            refine S.p (Pu.min rfl rfl) rfl ?_
            refine S.q (Qt.idxM Try.runUnderlying36 Try.sizeOf25 rfl (Src.row 1 rfl) rfl (by (try simp only [List.length_append, List.length_cons, List.length_nil, List.length_set]) <;> first | omega | (have hne1 := List.length_pos_iff.2 (hne rfl); omega)) (by (try simp only [List.length_append, List.length_cons, List.length_nil, List.length_set]) <;> first | omega | (have hne1 := List.length_pos_iff.2 (hne rfl); omega))) rfl ?_
            refine S.p (Pu.fieldAddr (off' := voff V18 + (((out ++ ([(⟨(k : Int), 0, -1, 128⟩ : Run)])).length : Int) - 1).toNat * 4 + 3) Try.runUnderlying25 rfl Try.sizeOf3 rfl rfl rfl) rfl ?_
            refine S.endO ?_
            refine O.l0 (Lo.storeM 1 (j := ((out ++ ([(⟨(k : Int), 0, -1, 128⟩ : Run)])).length - 1)) (off := 3) (vs := [.int .i64 (if e4.a < (({ e19 with to := (k : Int) }).stop) then e4.a else (({ e19 with to := (k : Int) }).stop))]) (e := [.int .i64 (({ e19 with to := (k : Int) }).frm), .int .i64 (({ e19 with to := (k : Int) }).to), .int .i64 (({ e19 with to := (k : Int) }).pass), .int .i64 (({ e19 with to := (k : Int) }).stop)]) ({ { e19 with to := (k : Int) } with stop := if e4.a < (({ e19 with to := (k : Int) }).stop) then e4.a else (({ e19 with to := (k : Int) }).stop) }) rfl rfl rfl rfl (by omega) hs20 rfl (by exact Try.sizeOf3) rfl rfl rfl rfl rfl) ?_
            rintro _ _ rfl
            have hs25 : (((out ++ ([(⟨(k : Int), 0, -1, 128⟩ : Run)])).set ((out ++ ([(⟨(k : Int), 0, -1, 128⟩ : Run)])).length - 1) ({ e19 with to := (k : Int) })).set ((out ++ ([(⟨(k : Int), 0, -1, 128⟩ : Run)])).length - 1) ({ { e19 with to := (k : Int) } with stop := if e4.a < (({ e19 with to := (k : Int) }).stop) then e4.a else (({ e19 with to := (k : Int) }).stop) }))[((out ++ ([(⟨(k : Int), 0, -1, 128⟩ : Run)])).length - 1)]? = some ({ { e19 with to := (k : Int) } with stop := if e4.a < (({ e19 with to := (k : Int) }).stop) then e4.a else (({ e19 with to := (k : Int) }).stop) }) := List.getElem?_set_self (List.getElem?_eq_some_iff.1 hs20).1
            refine O.nil ?_
            refine J.blk ?_
            refine J.region ?_
            refine O.p (Pu.move rfl) rfl ?_
            refine O.p (Pu.add' rfl rfl (by first | omega | (simp only [List.length_append, List.length_cons, List.length_nil, List.length_set]; omega))) rfl ?_
            refine O.p (Pu.assign rfl) rfl ?_
            refine O.nil ?_
            exact J.lp ⟨k + 1, true, V18, ((out ++ ([(⟨(k : Int), 0, -1, 128⟩ : Run)])).set ((out ++ ([(⟨(k : Int), 0, -1, 128⟩ : Run)])).length - 1) ({ e19 with to := (k : Int) })).set ((out ++ ([(⟨(k : Int), 0, -1, 128⟩ : Run)])).length - 1) ({ { e19 with to := (k : Int) } with stop := if e4.a < (({ e19 with to := (k : Int) }).stop) then e4.a else (({ e19 with to := (k : Int) }).stop) })⟩ (show (k + 1) ≤ l.length ∧ ((((out ++ ([(⟨(k : Int), 0, -1, 128⟩ : Run)])).set ((out ++ ([(⟨(k : Int), 0, -1, 128⟩ : Run)])).length - 1) ({ e19 with to := (k : Int) })).set ((out ++ ([(⟨(k : Int), 0, -1, 128⟩ : Run)])).length - 1) ({ { e19 with to := (k : Int) } with stop := if e4.a < (({ e19 with to := (k : Int) }).stop) then e4.a else (({ e19 with to := (k : Int) }).stop) })), true) = upI (Mono.runF s) ([], false) l (k + 1) ∧ (true = true → (((out ++ ([(⟨(k : Int), 0, -1, 128⟩ : Run)])).set ((out ++ ([(⟨(k : Int), 0, -1, 128⟩ : Run)])).length - 1) ({ e19 with to := (k : Int) })).set ((out ++ ([(⟨(k : Int), 0, -1, 128⟩ : Run)])).length - 1) ({ { e19 with to := (k : Int) } with stop := if e4.a < (({ e19 with to := (k : Int) }).stop) then e4.a else (({ e19 with to := (k : Int) }).stop) })) ≠ []) ∧ (((out ++ ([(⟨(k : Int), 0, -1, 128⟩ : Run)])).set ((out ++ ([(⟨(k : Int), 0, -1, 128⟩ : Run)])).length - 1) ({ e19 with to := (k : Int) })).set ((out ++ ([(⟨(k : Int), 0, -1, 128⟩ : Run)])).length - 1) ({ { e19 with to := (k : Int) } with stop := if e4.a < (({ e19 with to := (k : Int) }).stop) then e4.a else (({ e19 with to := (k : Int) }).stop) })).length ≤ (k + 1) from (Mono.note_next hk (by omega) hst hne hlen (by assumption) (by simp_all) (by simp_all) (by simp_all) (Mono.note_fin (by simp [Mono.opened]) rfl (by assumption) _ (by simp [Mono.put, *])))) (show l.length - (k + 1) < l.length - k from (by (try simp only [List.length_append, List.length_cons, List.length_nil, List.length_set]) <;> first | omega | (have hne1 := List.length_pos_iff.2 (hne rfl); omega))) ⟨rfl, rfl, rfl, rfl, rfl, (congrArg (fun z => some (Value.int .i64 z)) (by omega : ((k : Int) + 1 : Int) = ((k + 1) : Int))), trivial⟩ [1] (by decide) rfl
        ·
          have h26 : b = true := not_flip h15
          subst h26
          refine J.skip ?_
          refine J.seq ?_
          refine J.region ?_
          refine O.p (Pu.move rfl) rfl ?_
          refine O.q (Qt.lenM Try.runUnderlying36 rfl (Src.row 0 rfl)) rfl ?_
          refine O.p (Pu.sub' rfl rfl (by first | omega | (simp only [List.length_append, List.length_cons, List.length_nil, List.length_set]; omega))) rfl ?_
          refine O.p (Pu.assign rfl) rfl ?_
          refine O.nil ?_
          refine J.seq ?_
          refine J.region ?_
          refine O.p (Pu.move rfl) rfl ?_
          refine O.p (Pu.move rfl) rfl ?_
          refine O.p (Pu.move rfl) rfl ?_
          obtain ⟨e27, he27⟩ : ∃ e, out[(out.length - 1)]? = some e := ⟨_, List.getElem?_eq_getElem (by (try simp only [List.length_append, List.length_cons, List.length_nil, List.length_set]) <;> first | omega | (have hne1 := List.length_pos_iff.2 (hne rfl); omega))⟩
          refine O.q (Qt.idxM Try.runUnderlying36 Try.sizeOf25 rfl (Src.row 0 rfl) rfl (by (try simp only [List.length_append, List.length_cons, List.length_nil, List.length_set]) <;> first | omega | (have hne1 := List.length_pos_iff.2 (hne rfl); omega)) (by (try simp only [List.length_append, List.length_cons, List.length_nil, List.length_set]) <;> first | omega | (have hne1 := List.length_pos_iff.2 (hne rfl); omega))) rfl ?_
          refine O.p (Pu.fieldAddr (off' := voff V + ((out.length : Int) - 1).toNat * 4 + 1) Try.runUnderlying25 rfl Try.sizeOf3 rfl rfl rfl) rfl ?_
          refine O.l0 (Lo.storeM 0 (j := (out.length - 1)) (off := 1) (vs := [.int .i64 (k : Int)]) (e := [.int .i64 e27.frm, .int .i64 e27.to, .int .i64 e27.pass, .int .i64 e27.stop]) ({ e27 with to := (k : Int) }) rfl rfl rfl rfl (by omega) he27 rfl (by exact Try.sizeOf3) rfl rfl rfl rfl rfl) ?_
          rintro _ _ rfl
          have hs28 : (out.set (out.length - 1) ({ e27 with to := (k : Int) }))[(out.length - 1)]? = some ({ e27 with to := (k : Int) }) := List.getElem?_set_self (List.getElem?_eq_some_iff.1 he27).1
          refine O.nil ?_
          refine J.seq ?_
          refine J.region ?_
          refine O.p (Pu.move rfl) rfl ?_
          refine O.p (Pu.move rfl) rfl ?_
          refine O.q (Qt.idxM Try.runUnderlying22 Try.sizeOf93 rfl (Src.ro 0 rfl) rfl (by (try simp only [List.length_append, List.length_cons, List.length_nil, List.length_set]) <;> first | omega | (have hne1 := List.length_pos_iff.2 (hne rfl); omega)) (by (try simp only [List.length_append, List.length_cons, List.length_nil, List.length_set]) <;> first | omega | (have hne1 := List.length_pos_iff.2 (hne rfl); omega))) rfl ?_
          refine O.p (Pu.fieldAddr (off' := voff lv + ((k : Int)).toNat * 7 + 4) Try.runUnderlying93 rfl Try.sizeOf3 rfl rfl rfl) rfl ?_
          refine O.q (Qt.ld rfl (Cel.eltM (Src.ro 0 rfl) he4) (o := (voff lv + k * 7)) (off := 4) (by omega) (Cut.one Try.isAgg3 rfl)) rfl ?_
          refine O.p (Pu.eql rfl rfl) rfl ?_
          refine O.nil ?_
          refine J.cond rfl (fun h29 => ?_) (fun h29 => ?_)
          ·
            have p30 := of_decide_eq_true h29
            refine J.drawTail 15 Try.mixed (by kernel_rfl) ?_
            refine S.p (Pu.move rfl) rfl ?_
            refine S.p (Pu.move rfl) rfl ?_
            refine S.p (Pu.move rfl) rfl ?_
            refine S.p (Pu.move rfl) rfl ?_
            refine S.q (Qt.idxM Try.runUnderlying36 Try.sizeOf25 rfl (Src.row 0 rfl) rfl (by (try simp only [List.length_append, List.length_cons, List.length_nil, List.length_set]) <;> first | omega | (have hne1 := List.length_pos_iff.2 (hne rfl); omega)) (by (try simp only [List.length_append, List.length_cons, List.length_nil, List.length_set]) <;> first | omega | (have hne1 := List.length_pos_iff.2 (hne rfl); omega))) rfl ?_
            refine S.p (Pu.fieldAddr (off' := voff V + ((out.length : Int) - 1).toNat * 4 + 2) Try.runUnderlying25 rfl Try.sizeOf3 rfl rfl rfl) rfl ?_
            refine S.q (Qt.ld rfl (Cel.eltM (Src.row 0 rfl) hs28) (o := (voff V + (out.length - 1) * 4)) (off := 2) (by omega) (Cut.one Try.isAgg3 rfl)) rfl ?_
            refine S.p (Pu.move rfl) rfl ?_
            refine S.p (Pu.move rfl) rfl ?_
            refine S.q (Qt.idxM Try.runUnderlying22 Try.sizeOf93 rfl (Src.ro 0 rfl) rfl (by (try simp only [List.length_append, List.length_cons, List.length_nil, List.length_set]) <;> first | omega | (have hne1 := List.length_pos_iff.2 (hne rfl); omega)) (by (try simp only [List.length_append, List.length_cons, List.length_nil, List.length_set]) <;> first | omega | (have hne1 := List.length_pos_iff.2 (hne rfl); omega))) rfl ?_
            refine S.p (Pu.fieldAddr (off' := voff lv + ((k : Int)).toNat * 7 + 5) Try.runUnderlying93 rfl Try.sizeOf3 rfl rfl rfl) rfl ?_
            refine S.q (Qt.ld rfl (Cel.eltM (Src.ro 0 rfl) he4) (o := (voff lv + k * 7)) (off := 5) (by omega) (Cut.one Try.isAgg3 rfl)) rfl ?_
            refine S.p (Pu.max rfl rfl) rfl ?_
            refine S.q (Qt.idxM Try.runUnderlying36 Try.sizeOf25 rfl (Src.row 0 rfl) rfl (by (try simp only [List.length_append, List.length_cons, List.length_nil, List.length_set]) <;> first | omega | (have hne1 := List.length_pos_iff.2 (hne rfl); omega)) (by (try simp only [List.length_append, List.length_cons, List.length_nil, List.length_set]) <;> first | omega | (have hne1 := List.length_pos_iff.2 (hne rfl); omega))) rfl ?_
            refine S.p (Pu.fieldAddr (off' := voff V + ((out.length : Int) - 1).toNat * 4 + 2) Try.runUnderlying25 rfl Try.sizeOf3 rfl rfl rfl) rfl ?_
            refine S.endO ?_
            refine O.l0 (Lo.storeM 0 (j := (out.length - 1)) (off := 2) (vs := [.int .i64 (if e4.a > (({ e27 with to := (k : Int) }).pass) then e4.a else (({ e27 with to := (k : Int) }).pass))]) (e := [.int .i64 (({ e27 with to := (k : Int) }).frm), .int .i64 (({ e27 with to := (k : Int) }).to), .int .i64 (({ e27 with to := (k : Int) }).pass), .int .i64 (({ e27 with to := (k : Int) }).stop)]) ({ { e27 with to := (k : Int) } with pass := if e4.a > (({ e27 with to := (k : Int) }).pass) then e4.a else (({ e27 with to := (k : Int) }).pass) }) rfl rfl rfl rfl (by omega) hs28 rfl (by exact Try.sizeOf3) rfl rfl rfl rfl rfl) ?_
            rintro _ _ rfl
            have hs31 : ((out.set (out.length - 1) ({ e27 with to := (k : Int) })).set (out.length - 1) ({ { e27 with to := (k : Int) } with pass := if e4.a > (({ e27 with to := (k : Int) }).pass) then e4.a else (({ e27 with to := (k : Int) }).pass) }))[(out.length - 1)]? = some ({ { e27 with to := (k : Int) } with pass := if e4.a > (({ e27 with to := (k : Int) }).pass) then e4.a else (({ e27 with to := (k : Int) }).pass) }) := List.getElem?_set_self (List.getElem?_eq_some_iff.1 hs28).1
            refine O.nil ?_
            refine J.blk ?_
            refine J.region ?_
            refine O.p (Pu.move rfl) rfl ?_
            refine O.p (Pu.add' rfl rfl (by first | omega | (simp only [List.length_append, List.length_cons, List.length_nil, List.length_set]; omega))) rfl ?_
            refine O.p (Pu.assign rfl) rfl ?_
            refine O.nil ?_
            exact J.lp ⟨k + 1, true, V, (out.set (out.length - 1) ({ e27 with to := (k : Int) })).set (out.length - 1) ({ { e27 with to := (k : Int) } with pass := if e4.a > (({ e27 with to := (k : Int) }).pass) then e4.a else (({ e27 with to := (k : Int) }).pass) })⟩ (show (k + 1) ≤ l.length ∧ (((out.set (out.length - 1) ({ e27 with to := (k : Int) })).set (out.length - 1) ({ { e27 with to := (k : Int) } with pass := if e4.a > (({ e27 with to := (k : Int) }).pass) then e4.a else (({ e27 with to := (k : Int) }).pass) })), true) = upI (Mono.runF s) ([], false) l (k + 1) ∧ (true = true → ((out.set (out.length - 1) ({ e27 with to := (k : Int) })).set (out.length - 1) ({ { e27 with to := (k : Int) } with pass := if e4.a > (({ e27 with to := (k : Int) }).pass) then e4.a else (({ e27 with to := (k : Int) }).pass) })) ≠ []) ∧ ((out.set (out.length - 1) ({ e27 with to := (k : Int) })).set (out.length - 1) ({ { e27 with to := (k : Int) } with pass := if e4.a > (({ e27 with to := (k : Int) }).pass) then e4.a else (({ e27 with to := (k : Int) }).pass) })).length ≤ (k + 1) from (Mono.note_next hk (by omega) hst hne hlen (by assumption) (by simp_all) (by simp_all) (by simp_all) (Mono.note_fin (by simp [Mono.opened]) rfl (by assumption) _ (by simp [Mono.put, *])))) (show l.length - (k + 1) < l.length - k from (by (try simp only [List.length_append, List.length_cons, List.length_nil, List.length_set]) <;> first | omega | (have hne1 := List.length_pos_iff.2 (hne rfl); omega))) ⟨rfl, rfl, rfl, rfl, rfl, (congrArg (fun z => some (Value.int .i64 z)) (by omega : ((k : Int) + 1 : Int) = ((k + 1) : Int))), trivial⟩ [0] (by decide) rfl
          ·
            have p32 := of_decide_eq_false h29
            refine J.drawTail 15 Try.mixed (by kernel_rfl) ?_
            refine S.p (Pu.move rfl) rfl ?_
            refine S.p (Pu.move rfl) rfl ?_
            refine S.p (Pu.move rfl) rfl ?_
            refine S.p (Pu.move rfl) rfl ?_
            refine S.q (Qt.idxM Try.runUnderlying36 Try.sizeOf25 rfl (Src.row 0 rfl) rfl (by (try simp only [List.length_append, List.length_cons, List.length_nil, List.length_set]) <;> first | omega | (have hne1 := List.length_pos_iff.2 (hne rfl); omega)) (by (try simp only [List.length_append, List.length_cons, List.length_nil, List.length_set]) <;> first | omega | (have hne1 := List.length_pos_iff.2 (hne rfl); omega))) rfl ?_
            refine S.p (Pu.fieldAddr (off' := voff V + ((out.length : Int) - 1).toNat * 4 + 3) Try.runUnderlying25 rfl Try.sizeOf3 rfl rfl rfl) rfl ?_
            refine S.q (Qt.ld rfl (Cel.eltM (Src.row 0 rfl) hs28) (o := (voff V + (out.length - 1) * 4)) (off := 3) (by omega) (Cut.one Try.isAgg3 rfl)) rfl ?_
            refine S.p (Pu.move rfl) rfl ?_
            refine S.p (Pu.move rfl) rfl ?_
            refine S.q (Qt.idxM Try.runUnderlying22 Try.sizeOf93 rfl (Src.ro 0 rfl) rfl (by (try simp only [List.length_append, List.length_cons, List.length_nil, List.length_set]) <;> first | omega | (have hne1 := List.length_pos_iff.2 (hne rfl); omega)) (by (try simp only [List.length_append, List.length_cons, List.length_nil, List.length_set]) <;> first | omega | (have hne1 := List.length_pos_iff.2 (hne rfl); omega))) rfl ?_
            refine S.p (Pu.fieldAddr (off' := voff lv + ((k : Int)).toNat * 7 + 5) Try.runUnderlying93 rfl Try.sizeOf3 rfl rfl rfl) rfl ?_
            refine S.q (Qt.ld rfl (Cel.eltM (Src.ro 0 rfl) he4) (o := (voff lv + k * 7)) (off := 5) (by omega) (Cut.one Try.isAgg3 rfl)) rfl ?_
            refine S.p (Pu.min rfl rfl) rfl ?_
            refine S.q (Qt.idxM Try.runUnderlying36 Try.sizeOf25 rfl (Src.row 0 rfl) rfl (by (try simp only [List.length_append, List.length_cons, List.length_nil, List.length_set]) <;> first | omega | (have hne1 := List.length_pos_iff.2 (hne rfl); omega)) (by (try simp only [List.length_append, List.length_cons, List.length_nil, List.length_set]) <;> first | omega | (have hne1 := List.length_pos_iff.2 (hne rfl); omega))) rfl ?_
            refine S.p (Pu.fieldAddr (off' := voff V + ((out.length : Int) - 1).toNat * 4 + 3) Try.runUnderlying25 rfl Try.sizeOf3 rfl rfl rfl) rfl ?_
            refine S.endO ?_
            refine O.l0 (Lo.storeM 0 (j := (out.length - 1)) (off := 3) (vs := [.int .i64 (if e4.a < (({ e27 with to := (k : Int) }).stop) then e4.a else (({ e27 with to := (k : Int) }).stop))]) (e := [.int .i64 (({ e27 with to := (k : Int) }).frm), .int .i64 (({ e27 with to := (k : Int) }).to), .int .i64 (({ e27 with to := (k : Int) }).pass), .int .i64 (({ e27 with to := (k : Int) }).stop)]) ({ { e27 with to := (k : Int) } with stop := if e4.a < (({ e27 with to := (k : Int) }).stop) then e4.a else (({ e27 with to := (k : Int) }).stop) }) rfl rfl rfl rfl (by omega) hs28 rfl (by exact Try.sizeOf3) rfl rfl rfl rfl rfl) ?_
            rintro _ _ rfl
            have hs33 : ((out.set (out.length - 1) ({ e27 with to := (k : Int) })).set (out.length - 1) ({ { e27 with to := (k : Int) } with stop := if e4.a < (({ e27 with to := (k : Int) }).stop) then e4.a else (({ e27 with to := (k : Int) }).stop) }))[(out.length - 1)]? = some ({ { e27 with to := (k : Int) } with stop := if e4.a < (({ e27 with to := (k : Int) }).stop) then e4.a else (({ e27 with to := (k : Int) }).stop) }) := List.getElem?_set_self (List.getElem?_eq_some_iff.1 hs28).1
            refine O.nil ?_
            refine J.blk ?_
            refine J.region ?_
            refine O.p (Pu.move rfl) rfl ?_
            refine O.p (Pu.add' rfl rfl (by first | omega | (simp only [List.length_append, List.length_cons, List.length_nil, List.length_set]; omega))) rfl ?_
            refine O.p (Pu.assign rfl) rfl ?_
            refine O.nil ?_
            exact J.lp ⟨k + 1, true, V, (out.set (out.length - 1) ({ e27 with to := (k : Int) })).set (out.length - 1) ({ { e27 with to := (k : Int) } with stop := if e4.a < (({ e27 with to := (k : Int) }).stop) then e4.a else (({ e27 with to := (k : Int) }).stop) })⟩ (show (k + 1) ≤ l.length ∧ (((out.set (out.length - 1) ({ e27 with to := (k : Int) })).set (out.length - 1) ({ { e27 with to := (k : Int) } with stop := if e4.a < (({ e27 with to := (k : Int) }).stop) then e4.a else (({ e27 with to := (k : Int) }).stop) })), true) = upI (Mono.runF s) ([], false) l (k + 1) ∧ (true = true → ((out.set (out.length - 1) ({ e27 with to := (k : Int) })).set (out.length - 1) ({ { e27 with to := (k : Int) } with stop := if e4.a < (({ e27 with to := (k : Int) }).stop) then e4.a else (({ e27 with to := (k : Int) }).stop) })) ≠ []) ∧ ((out.set (out.length - 1) ({ e27 with to := (k : Int) })).set (out.length - 1) ({ { e27 with to := (k : Int) } with stop := if e4.a < (({ e27 with to := (k : Int) }).stop) then e4.a else (({ e27 with to := (k : Int) }).stop) })).length ≤ (k + 1) from (Mono.note_next hk (by omega) hst hne hlen (by assumption) (by simp_all) (by simp_all) (by simp_all) (Mono.note_fin (by simp [Mono.opened]) rfl (by assumption) _ (by simp [Mono.put, *])))) (show l.length - (k + 1) < l.length - k from (by (try simp only [List.length_append, List.length_cons, List.length_nil, List.length_set]) <;> first | omega | (have hne1 := List.length_pos_iff.2 (hne rfl); omega))) ⟨rfl, rfl, rfl, rfl, rfl, (congrArg (fun z => some (Value.int .i64 z)) (by omega : ((k : Int) + 1 : Int) = ((k + 1) : Int))), trivial⟩ [0] (by decide) rfl
  ·
    have p34 := of_decide_eq_false h2
    refine J.exit _ rfl ?_
    refine J.seq ?_
    refine J.region ?_
    refine O.p (Pu.move rfl) rfl ?_
    refine O.p (Pu.assign rfl) rfl ?_
    refine O.nil ?_
    exact J.ret (Fin.ret (rs := [.tmp 4]) rfl [_] ⟨rfl, trivial⟩ [0] (by decide) [row V 25 4 (out.map Run.cells)] rfl (congrArg (fun o => ([row V 25 4 (o.map Run.cells)] : List Sp)) (show out = Mono.runs s l from (by have hk2 : k = l.length := (by omega); rw [Mono.runs, ← hk2, ← hst]))))

set_option maxRecDepth 100000 in
theorem r42_wrong (s : Int) (lv : Value) (l : List Ev) (hl : l.length ≤ 100000) : Tri Try.prog 10 #[.int .i64 s, lv] [rd lv 7 (l.map Ev.cells)] [] (fun v L' => v = .tuple #[.agg (Run.cells (Mono.wrong s l).1).toArray, .bool (Mono.wrong s l).2] ∧ L' = []) := by
  have hrl := Mono.runs_len s l
  refine Tri.enter (args := [.int .i64 s, lv]) (body := _) 33 Try.func10 rfl Try.ntmps10 rfl ?_
  intro w0
  refine J.seq ?_
  refine J.region ?_
  refine O.l (Lo.alloc [.int .i64 0, .int .i64 0, .int .i64 0, .int .i64 0] (by exact Try.zeroValue25) rfl) rfl ?_
  rintro _ _ ⟨g1, rfl, rfl⟩
  refine O.p (Pu.assign rfl) rfl ?_
  refine O.nil ?_
  refine J.seq ?_
  refine J.region ?_
  refine O.p (Pu.move rfl) rfl ?_
  refine O.p (Pu.move rfl) rfl ?_
  refine O.l (Lo.call [.int .i64 s, lv] (by exact Try.call16) rfl (r42_runs s lv l (by omega)) [] [0] (by decide) rfl _ rfl (RoOk.ro 0 rfl [] rfl RoOk.nil)) rfl ?_
  rintro v2 _ ⟨_, rfl, rfl⟩
  refine O.p (Pu.assign rfl) rfl ?_
  refine O.nil ?_
  refine J.seq ?_
  refine J.seq ?_
  refine J.region ?_
  refine O.p (Pu.assign rfl) rfl ?_
  refine O.nil ?_
  refine J.block ?_
  refine J.loop (X := Nat) (fun ξ => ξ ≤ (Mono.runs s l).length ∧ ∀ j x, j < ξ → (Mono.runs s l)[j]? = some x → Mono.bad x = false) (fun ξ => [(4, .pointer (some ⟨g1, 0, none⟩)), (6, v2), (7, .int .i64 (ξ : Int))]) (fun ξ => [row v2 25 4 ((Mono.runs s l).map Run.cells), var g1 [.int .i64 0, .int .i64 0, .int .i64 0, .int .i64 0] 25]) (fun ξ => (Mono.runs s l).length - ξ) 0 (show 0 ≤ (Mono.runs s l).length ∧ ∀ j x, j < 0 → (Mono.runs s l)[j]? = some x → Mono.bad x = false from ⟨by omega, fun _ _ h => absurd h (by omega)⟩) ⟨rfl, rfl, (congrArg (fun z => some (Value.int .i64 z)) (by omega : (0 : Int) = (0 : Int))), trivial⟩ [0, 1] (by decide) rfl ?_
  rintro k hq3
  obtain ⟨hk, hno⟩ : k ≤ (Mono.runs s l).length ∧ ∀ j x, j < k → (Mono.runs s l)[j]? = some x → Mono.bad x = false := hq3
  show J _ _ [(4, .pointer (some ⟨g1, 0, none⟩)), (6, v2), (7, .int .i64 (k : Int))] [row v2 25 4 ((Mono.runs s l).map Run.cells), var g1 [.int .i64 0, .int .i64 0, .int .i64 0, .int .i64 0] 25]
  refine J.seq ?_
  refine J.seq ?_
  refine J.region ?_
  refine O.p (Pu.move rfl) rfl ?_
  refine O.p (Pu.move rfl) rfl ?_
  refine O.q (Qt.lenM Try.runUnderlying36 rfl (Src.row 0 rfl)) rfl ?_
  refine O.p (Pu.lss rfl rfl) rfl ?_
  refine O.nil ?_
  refine J.cond rfl (fun h4 => ?_) (fun h4 => ?_)
  ·
    have p5 := of_decide_eq_true h4
    refine J.skip ?_
    refine J.seq ?_
    refine J.block ?_
    refine J.seq ?_
    refine J.drawStill Try.mixed (by kernel_rfl) ?_
    refine S.p (Pu.move rfl) rfl ?_
    refine S.p (Pu.move rfl) rfl ?_
    obtain ⟨e6, he6⟩ : ∃ e, (Mono.runs s l)[k]? = some e := ⟨_, List.getElem?_eq_getElem (by first | omega | (simp only [List.length_append, List.length_cons, List.length_nil, List.length_set]; omega))⟩
    refine S.q (Qt.idxM Try.runUnderlying36 Try.sizeOf25 rfl (Src.row 0 rfl) rfl (by first | omega | (simp only [List.length_append, List.length_cons, List.length_nil, List.length_set]; omega)) (by first | omega | (simp only [List.length_append, List.length_cons, List.length_nil, List.length_set]; omega))) rfl ?_
    refine S.p (Pu.fieldAddr (off' := voff v2 + ((k : Int)).toNat * 4 + 2) Try.runUnderlying25 rfl Try.sizeOf3 rfl rfl rfl) rfl ?_
    refine S.q (Qt.ld rfl (Cel.eltM (Src.row 0 rfl) he6) (o := (voff v2 + k * 4)) (off := 2) (by omega) (Cut.one Try.isAgg3 rfl)) rfl ?_
    refine S.p (Pu.move rfl) rfl ?_
    refine S.p (Pu.move rfl) rfl ?_
    refine S.q (Qt.idxM Try.runUnderlying36 Try.sizeOf25 rfl (Src.row 0 rfl) rfl (by first | omega | (simp only [List.length_append, List.length_cons, List.length_nil, List.length_set]; omega)) (by first | omega | (simp only [List.length_append, List.length_cons, List.length_nil, List.length_set]; omega))) rfl ?_
    refine S.p (Pu.fieldAddr (off' := voff v2 + ((k : Int)).toNat * 4 + 3) Try.runUnderlying25 rfl Try.sizeOf3 rfl rfl rfl) rfl ?_
    refine S.q (Qt.ld rfl (Cel.eltM (Src.row 0 rfl) he6) (o := (voff v2 + k * 4)) (off := 3) (by omega) (Cut.one Try.isAgg3 rfl)) rfl ?_
    refine S.p (Pu.geq rfl rfl) rfl ?_
    refine S.endJ ?_
    refine J.cond rfl (fun h7 => ?_) (fun h7 => ?_)
    ·
      have p8 := of_decide_eq_true h7
      refine J.seq ?_
      refine J.region ?_
      refine O.p (Pu.move rfl) rfl ?_
      refine O.p (Pu.move rfl) rfl ?_
      refine O.q (Qt.idxM Try.runUnderlying36 Try.sizeOf25 rfl (Src.row 0 rfl) rfl (by first | omega | (simp only [List.length_append, List.length_cons, List.length_nil, List.length_set]; omega)) (by first | omega | (simp only [List.length_append, List.length_cons, List.length_nil, List.length_set]; omega))) rfl ?_
      refine O.q (Qt.ld rfl (Cel.eltM (Src.row 0 rfl) he6) (o := (voff v2 + k * 4)) (off := 0) (by omega) (Cut.agg [.int .i64 e6.frm, .int .i64 e6.to, .int .i64 e6.pass, .int .i64 e6.stop] Try.isAgg25 Try.sizeOf25 rfl rfl)) rfl ?_
      refine O.l0 (Lo.store 1 (vs := [.int .i64 e6.frm, .int .i64 e6.to, .int .i64 e6.pass, .int .i64 e6.stop]) [.int .i64 e6.frm, .int .i64 e6.to, .int .i64 e6.pass, .int .i64 e6.stop] rfl rfl rfl (by exact Try.sizeOf25) rfl rfl rfl rfl rfl) ?_
      rintro _ _ rfl
      refine O.p (Pu.assign rfl) rfl ?_
      refine O.nil ?_
      exact J.ret (Fin.ret (rs := [.cell 4 25, .tmp 5]) rfl [_, _] ⟨⟨_, _, 0, 0, _, rfl, (Cel.var 1 rfl), rfl, (Cut.agg [.int .i64 e6.frm, .int .i64 e6.to, .int .i64 e6.pass, .int .i64 e6.stop] Try.isAgg25 Try.sizeOf25 rfl rfl)⟩, rfl, trivial⟩ [] (by decide) [] rfl ⟨(by simp [vOf, Run.cells, Mono.wrong, find_at hno (by assumption) (show Mono.bad _ = true from (by assumption))]), rfl⟩)
    ·
      have p9 := of_decide_eq_false h7
      refine J.skip ?_
      refine J.blk ?_
      refine J.region ?_
      refine O.p (Pu.move rfl) rfl ?_
      refine O.p (Pu.add' rfl rfl (by first | omega | (simp only [List.length_append, List.length_cons, List.length_nil, List.length_set]; omega))) rfl ?_
      refine O.p (Pu.assign rfl) rfl ?_
      refine O.nil ?_
      exact J.lp (k + 1) (show (k + 1) ≤ (Mono.runs s l).length ∧ ∀ j x, j < (k + 1) → (Mono.runs s l)[j]? = some x → Mono.bad x = false from ⟨by omega, none_step hno (by assumption) (show Mono.bad _ = false from (by assumption))⟩) (show (Mono.runs s l).length - (k + 1) < (Mono.runs s l).length - k from (by first | omega | (simp only [List.length_append, List.length_cons, List.length_nil, List.length_set]; omega))) ⟨rfl, rfl, (congrArg (fun z => some (Value.int .i64 z)) (by omega : ((k : Int) + 1 : Int) = ((k + 1) : Int))), trivial⟩ [0, 1] (by decide) rfl
  ·
    have p10 := of_decide_eq_false h4
    refine J.exit _ rfl ?_
    refine J.seq ?_
    refine J.region ?_
    refine O.p (Pu.build [] [.int .i64 0, .int .i64 0, .int .i64 0, .int .i64 0] #[(0, 1), (1, 1), (2, 1), (3, 1)] Try.runUnderlying25 Try.zeroValue25 (places25 Try.underlying25) rfl (by kernel_rfl)) rfl ?_
    refine O.l0 (Lo.store 1 (vs := [.int .i64 0, .int .i64 0, .int .i64 0, .int .i64 0]) [.int .i64 0, .int .i64 0, .int .i64 0, .int .i64 0] rfl rfl rfl (by exact Try.sizeOf25) rfl rfl rfl rfl rfl) ?_
    rintro _ _ rfl
    refine O.p (Pu.assign rfl) rfl ?_
    refine O.nil ?_
    exact J.ret (Fin.ret (rs := [.cell 4 25, .tmp 5]) rfl [_, _] ⟨⟨_, _, 0, 0, _, rfl, (Cel.var 1 rfl), rfl, (Cut.agg [.int .i64 0, .int .i64 0, .int .i64 0, .int .i64 0] Try.isAgg25 Try.sizeOf25 rfl rfl)⟩, rfl, trivial⟩ [] (by decide) [] rfl ⟨(by simp [vOf, Run.cells, Mono.wrong, find_no hno (by omega)]), rfl⟩)

set_option maxRecDepth 100000 in
theorem r42_tell (s : Int) (lv : Value) (l : List Ev) (hl : l.length ≤ 100000) : Tri Try.prog 13 #[.int .i64 s, lv] [rd lv 7 (l.map Ev.cells)] [] (fun v L' => v = .tuple #[.int .i64 (Mono.passed s l).1, .int .i64 (Mono.passed s l).2, .int .i64 (Mono.least s l).1, .bool (Mono.least s l).2] ∧ L' = []) := by
  refine Tri.enter (args := [.int .i64 s, lv]) (body := _) 56 Try.func13 rfl Try.ntmps13 rfl ?_
  intro w0
  refine J.seq ?_
  refine J.region ?_
  refine O.p (Pu.assign rfl) rfl ?_
  refine O.p (Pu.assign rfl) rfl ?_
  refine O.p (Pu.assign rfl) rfl ?_
  refine O.p (Pu.assign rfl) rfl ?_
  refine O.nil ?_
  refine J.seq ?_
  refine J.region ?_
  refine O.p (Pu.assign rfl) rfl ?_
  refine O.p (Pu.assign rfl) rfl ?_
  refine O.p (Pu.assign rfl) rfl ?_
  refine O.p (Pu.assign rfl) rfl ?_
  refine O.nil ?_
  refine J.seq ?_
  refine J.seq ?_
  refine J.region ?_
  refine O.p (Pu.assign rfl) rfl ?_
  refine O.nil ?_
  refine J.block ?_
  refine J.loop (X := Nat × Int × Int × Int × Bool) (fun ξ => ξ.1 ≤ l.length ∧ (ξ.2.1, ξ.2.2.1) = upI (Mono.passG s) (0, 0) l ξ.1 ∧ (ξ.2.2.2.1, ξ.2.2.2.2) = upI (Mono.leastG s) (0, false) l ξ.1 ∧ 0 ≤ ξ.2.1 ∧ ξ.2.1 ≤ ξ.1 ∧ 0 ≤ ξ.2.2.1 ∧ ξ.2.2.1 ≤ ξ.1) (fun ξ => [(0, .int .i64 s), (1, lv), (4, .int .i64 0), (5, .int .i64 0), (6, .int .i64 0), (7, .bool false), (8, .int .i64 ξ.2.1), (9, .int .i64 ξ.2.2.1), (10, .int .i64 ξ.2.2.2.1), (11, .bool ξ.2.2.2.2), (12, .int .i64 (ξ.1 : Int))]) (fun ξ => []) (fun ξ => l.length - ξ.1) ⟨0, 0, 0, 0, false⟩ (show 0 ≤ l.length ∧ (0, 0) = upI (Mono.passG s) (0, 0) l 0 ∧ (0, false) = upI (Mono.leastG s) (0, false) l 0 ∧ 0 ≤ 0 ∧ 0 ≤ 0 ∧ 0 ≤ 0 ∧ 0 ≤ 0 from ⟨by omega, rfl, rfl, by omega, by omega, by omega, by omega⟩) ⟨rfl, rfl, rfl, rfl, rfl, rfl, rfl, rfl, rfl, rfl, (congrArg (fun z => some (Value.int .i64 z)) (by omega : (0 : Int) = (0 : Int))), trivial⟩ [] (by decide) rfl ?_
  rintro ⟨k, y, n, m, q⟩ hq1
  obtain ⟨hk, hs1, hs2, hy0, hy1, hn0, hn1⟩ : k ≤ l.length ∧ (y, n) = upI (Mono.passG s) (0, 0) l k ∧ (m, q) = upI (Mono.leastG s) (0, false) l k ∧ 0 ≤ y ∧ y ≤ k ∧ 0 ≤ n ∧ n ≤ k := hq1
  show J _ _ [(0, .int .i64 s), (1, lv), (4, .int .i64 0), (5, .int .i64 0), (6, .int .i64 0), (7, .bool false), (8, .int .i64 y), (9, .int .i64 n), (10, .int .i64 m), (11, .bool q), (12, .int .i64 (k : Int))] []
  refine J.seq ?_
  refine J.seq ?_
  refine J.region ?_
  refine O.p (Pu.move rfl) rfl ?_
  refine O.p (Pu.move rfl) rfl ?_
  refine O.q (Qt.lenM Try.runUnderlying22 rfl (Src.ro 0 rfl)) rfl ?_
  refine O.p (Pu.lss rfl rfl) rfl ?_
  refine O.nil ?_
  refine J.cond rfl (fun h2 => ?_) (fun h2 => ?_)
  ·
    have p3 := of_decide_eq_true h2
    refine J.skip ?_
    refine J.seq ?_
    refine J.block ?_
    refine J.seq ?_
    refine J.seq ?_
    refine J.region ?_
    refine O.p (Pu.move rfl) rfl ?_
    refine O.p (Pu.move rfl) rfl ?_
    obtain ⟨e4, he4⟩ : ∃ e, l[k]? = some e := ⟨_, List.getElem?_eq_getElem (by first | omega | (simp only [List.length_append, List.length_cons, List.length_nil, List.length_set]; omega))⟩
    refine O.q (Qt.idxM Try.runUnderlying22 Try.sizeOf93 rfl (Src.ro 0 rfl) rfl (by first | omega | (simp only [List.length_append, List.length_cons, List.length_nil, List.length_set]; omega)) (by first | omega | (simp only [List.length_append, List.length_cons, List.length_nil, List.length_set]; omega))) rfl ?_
    refine O.q (Qt.ld rfl (Cel.eltM (Src.ro 0 rfl) he4) (o := (voff lv + k * 7)) (off := 0) (by omega) (Cut.agg [.int .i64 e4.kind, .int .i64 e4.tick, .int .i64 e4.s, .int .i64 e4.id, .int .i64 e4.code, .int .i64 e4.a, .int .i64 e4.b] Try.isAgg93 Try.sizeOf93 rfl rfl)) rfl ?_
    refine O.p (Pu.move rfl) rfl ?_
    refine O.l (Lo.call [.agg #[.int .i64 e4.kind, .int .i64 e4.tick, .int .i64 e4.s, .int .i64 e4.id, .int .i64 e4.code, .int .i64 e4.a, .int .i64 e4.b], .int .i64 s] (by exact Try.call52) rfl (r42_decision e4 s) [] [] (by decide) rfl _ rfl RoOk.nil) rfl ?_
    rintro _ _ ⟨_, ⟨rfl, rfl⟩, rfl⟩
    refine O.p (Pu.not rfl) rfl ?_
    refine O.nil ?_
    refine J.cond rfl (fun h6 => ?_) (fun h6 => ?_)
    ·
      have h7 : (decide (e4.s = s) && Mono.dec e4) = false := not_flip h6
      refine J.exit _ rfl ?_
      refine J.region ?_
      refine O.p (Pu.move rfl) rfl ?_
      refine O.p (Pu.add' rfl rfl (by first | omega | (simp only [List.length_append, List.length_cons, List.length_nil, List.length_set]; omega))) rfl ?_
      refine O.p (Pu.assign rfl) rfl ?_
      refine O.nil ?_
      exact J.lp ⟨k + 1, y, n, m, q⟩ (show (k + 1) ≤ l.length ∧ (y, n) = upI (Mono.passG s) (0, 0) l (k + 1) ∧ (m, q) = upI (Mono.leastG s) (0, false) l (k + 1) ∧ 0 ≤ y ∧ y ≤ (k + 1) ∧ 0 ≤ n ∧ n ≤ (k + 1) from ⟨by omega, (by rw [upI_succ (by assumption), ← hs1]; clear hs1 hs2; simp_all [Mono.passG, Mono.passF]), (by rw [upI_succ (by assumption), ← hs2]; clear hs1 hs2; simp_all [Mono.leastG, Mono.leastF] <;> intros <;> omega), by omega, by omega, by omega, by omega⟩) (show l.length - (k + 1) < l.length - k from (by first | omega | (simp only [List.length_append, List.length_cons, List.length_nil, List.length_set]; omega))) ⟨rfl, rfl, rfl, rfl, rfl, rfl, rfl, rfl, rfl, rfl, (congrArg (fun z => some (Value.int .i64 z)) (by omega : ((k : Int) + 1 : Int) = ((k + 1) : Int))), trivial⟩ [] (by decide) rfl
    ·
      have h8 : (decide (e4.s = s) && Mono.dec e4) = true := not_flip h6
      refine J.skip ?_
      refine J.seq ?_
      refine J.seq ?_
      refine J.region ?_
      refine O.p (Pu.move rfl) rfl ?_
      refine O.p (Pu.move rfl) rfl ?_
      refine O.q (Qt.idxM Try.runUnderlying22 Try.sizeOf93 rfl (Src.ro 0 rfl) rfl (by first | omega | (simp only [List.length_append, List.length_cons, List.length_nil, List.length_set]; omega)) (by first | omega | (simp only [List.length_append, List.length_cons, List.length_nil, List.length_set]; omega))) rfl ?_
      refine O.p (Pu.fieldAddr (off' := voff lv + ((k : Int)).toNat * 7 + 4) Try.runUnderlying93 rfl Try.sizeOf3 rfl rfl rfl) rfl ?_
      refine O.q (Qt.ld rfl (Cel.eltM (Src.ro 0 rfl) he4) (o := (voff lv + k * 7)) (off := 4) (by omega) (Cut.one Try.isAgg3 rfl)) rfl ?_
      refine O.p (Pu.eql rfl rfl) rfl ?_
      refine O.nil ?_
      refine J.cond rfl (fun h9 => ?_) (fun h9 => ?_)
      ·
        have p10 := of_decide_eq_true h9
        refine J.region ?_
        refine O.p (Pu.move rfl) rfl ?_
        refine O.p (Pu.add' rfl rfl (by first | omega | (simp only [List.length_append, List.length_cons, List.length_nil, List.length_set]; omega))) rfl ?_
        refine O.p (Pu.assign rfl) rfl ?_
        refine O.nil ?_
        refine J.seq ?_
        refine J.seq ?_
        refine J.region ?_
        refine O.p (Pu.move rfl) rfl ?_
        refine O.p (Pu.not rfl) rfl ?_
        refine O.p (Pu.move rfl) rfl ?_
        refine by_bool (!q) (fun h11 => ?_) (fun h11 => ?_)
        ·
          have h12 : q = false := not_flip h11
          subst h12
          refine O.gskip (t := 38) rfl rfl (no_bool (by decide)) rfl rfl ?_
          refine O.gskip (t := 38) rfl rfl (no_bool (by decide)) rfl rfl ?_
          refine O.gskip (t := 38) rfl rfl (no_bool (by decide)) rfl rfl ?_
          refine O.gskip (t := 38) rfl rfl (no_bool (by decide)) rfl rfl ?_
          refine O.gskip (t := 38) rfl rfl (no_bool (by decide)) rfl rfl ?_
          refine O.gskip (t := 38) rfl rfl (no_bool (by decide)) rfl rfl ?_
          refine O.gskip (t := 38) rfl rfl (no_bool (by decide)) rfl rfl ?_
          refine O.p (Pu.pickT rfl rfl rfl) rfl ?_
          refine O.nil ?_
          refine J.condT rfl rfl ?_
          refine J.region ?_
          refine O.p (Pu.move rfl) rfl ?_
          refine O.p (Pu.move rfl) rfl ?_
          refine O.q (Qt.idxM Try.runUnderlying22 Try.sizeOf93 rfl (Src.ro 0 rfl) rfl (by first | omega | (simp only [List.length_append, List.length_cons, List.length_nil, List.length_set]; omega)) (by first | omega | (simp only [List.length_append, List.length_cons, List.length_nil, List.length_set]; omega))) rfl ?_
          refine O.p (Pu.fieldAddr (off' := voff lv + ((k : Int)).toNat * 7 + 6) Try.runUnderlying93 rfl Try.sizeOf3 rfl rfl rfl) rfl ?_
          refine O.q (Qt.ld rfl (Cel.eltM (Src.ro 0 rfl) he4) (o := (voff lv + k * 7)) (off := 6) (by omega) (Cut.one Try.isAgg3 rfl)) rfl ?_
          refine O.p (Pu.assign rfl) rfl ?_
          refine O.nil ?_
          refine J.region ?_
          refine O.p (Pu.assign rfl) rfl ?_
          refine O.nil ?_
          refine J.blk ?_
          refine J.region ?_
          refine O.p (Pu.move rfl) rfl ?_
          refine O.p (Pu.add' rfl rfl (by first | omega | (simp only [List.length_append, List.length_cons, List.length_nil, List.length_set]; omega))) rfl ?_
          refine O.p (Pu.assign rfl) rfl ?_
          refine O.nil ?_
          exact J.lp ⟨k + 1, y + 1, n, e4.b, true⟩ (show (k + 1) ≤ l.length ∧ ((y + 1), n) = upI (Mono.passG s) (0, 0) l (k + 1) ∧ (e4.b, true) = upI (Mono.leastG s) (0, false) l (k + 1) ∧ 0 ≤ (y + 1) ∧ (y + 1) ≤ (k + 1) ∧ 0 ≤ n ∧ n ≤ (k + 1) from ⟨by omega, (by rw [upI_succ (by assumption), ← hs1]; clear hs1 hs2; simp_all [Mono.passG, Mono.passF]), (by rw [upI_succ (by assumption), ← hs2]; clear hs1 hs2; simp_all [Mono.leastG, Mono.leastF] <;> intros <;> omega), by omega, by omega, by omega, by omega⟩) (show l.length - (k + 1) < l.length - k from (by first | omega | (simp only [List.length_append, List.length_cons, List.length_nil, List.length_set]; omega))) ⟨rfl, rfl, rfl, rfl, rfl, rfl, rfl, rfl, rfl, rfl, (congrArg (fun z => some (Value.int .i64 z)) (by omega : ((k : Int) + 1 : Int) = ((k + 1) : Int))), trivial⟩ [] (by decide) rfl
        ·
          have h13 : q = true := not_flip h11
          subst h13
          refine O.gq (t := 38) rfl rfl rfl rfl (Pu.qt (Pu.move rfl)) rfl ?_
          refine O.gq (t := 38) rfl rfl rfl rfl (Pu.qt (Pu.move rfl)) rfl ?_
          refine O.gq (t := 38) rfl rfl rfl rfl (Qt.idxM Try.runUnderlying22 Try.sizeOf93 rfl (Src.ro 0 rfl) rfl (by first | omega | (simp only [List.length_append, List.length_cons, List.length_nil, List.length_set]; omega)) (by first | omega | (simp only [List.length_append, List.length_cons, List.length_nil, List.length_set]; omega))) rfl ?_
          refine O.gq (t := 38) rfl rfl rfl rfl (Pu.qt (Pu.fieldAddr (off' := voff lv + ((k : Int)).toNat * 7 + 6) Try.runUnderlying93 rfl Try.sizeOf3 rfl rfl rfl)) rfl ?_
          refine O.gq (t := 38) rfl rfl rfl rfl (Qt.ld rfl (Cel.eltM (Src.ro 0 rfl) he4) (o := (voff lv + k * 7)) (off := 6) (by omega) (Cut.one Try.isAgg3 rfl)) rfl ?_
          refine O.gq (t := 38) rfl rfl rfl rfl (Pu.qt (Pu.move rfl)) rfl ?_
          refine O.gq (t := 38) rfl rfl rfl rfl (Pu.qt (Pu.lss rfl rfl)) rfl ?_
          refine O.p (Pu.pickF rfl rfl rfl) rfl ?_
          refine O.nil ?_
          refine J.cond rfl (fun h14 => ?_) (fun h14 => ?_)
          ·
            have p15 := of_decide_eq_true h14
            refine J.region ?_
            refine O.p (Pu.move rfl) rfl ?_
            refine O.p (Pu.move rfl) rfl ?_
            refine O.q (Qt.idxM Try.runUnderlying22 Try.sizeOf93 rfl (Src.ro 0 rfl) rfl (by first | omega | (simp only [List.length_append, List.length_cons, List.length_nil, List.length_set]; omega)) (by first | omega | (simp only [List.length_append, List.length_cons, List.length_nil, List.length_set]; omega))) rfl ?_
            refine O.p (Pu.fieldAddr (off' := voff lv + ((k : Int)).toNat * 7 + 6) Try.runUnderlying93 rfl Try.sizeOf3 rfl rfl rfl) rfl ?_
            refine O.q (Qt.ld rfl (Cel.eltM (Src.ro 0 rfl) he4) (o := (voff lv + k * 7)) (off := 6) (by omega) (Cut.one Try.isAgg3 rfl)) rfl ?_
            refine O.p (Pu.assign rfl) rfl ?_
            refine O.nil ?_
            refine J.region ?_
            refine O.p (Pu.assign rfl) rfl ?_
            refine O.nil ?_
            refine J.blk ?_
            refine J.region ?_
            refine O.p (Pu.move rfl) rfl ?_
            refine O.p (Pu.add' rfl rfl (by first | omega | (simp only [List.length_append, List.length_cons, List.length_nil, List.length_set]; omega))) rfl ?_
            refine O.p (Pu.assign rfl) rfl ?_
            refine O.nil ?_
            exact J.lp ⟨k + 1, y + 1, n, e4.b, true⟩ (show (k + 1) ≤ l.length ∧ ((y + 1), n) = upI (Mono.passG s) (0, 0) l (k + 1) ∧ (e4.b, true) = upI (Mono.leastG s) (0, false) l (k + 1) ∧ 0 ≤ (y + 1) ∧ (y + 1) ≤ (k + 1) ∧ 0 ≤ n ∧ n ≤ (k + 1) from ⟨by omega, (by rw [upI_succ (by assumption), ← hs1]; clear hs1 hs2; simp_all [Mono.passG, Mono.passF]), (by rw [upI_succ (by assumption), ← hs2]; clear hs1 hs2; simp_all [Mono.leastG, Mono.leastF] <;> intros <;> omega), by omega, by omega, by omega, by omega⟩) (show l.length - (k + 1) < l.length - k from (by first | omega | (simp only [List.length_append, List.length_cons, List.length_nil, List.length_set]; omega))) ⟨rfl, rfl, rfl, rfl, rfl, rfl, rfl, rfl, rfl, rfl, (congrArg (fun z => some (Value.int .i64 z)) (by omega : ((k : Int) + 1 : Int) = ((k + 1) : Int))), trivial⟩ [] (by decide) rfl
          ·
            have p16 := of_decide_eq_false h14
            refine J.skip ?_
            refine J.region ?_
            refine O.p (Pu.assign rfl) rfl ?_
            refine O.nil ?_
            refine J.blk ?_
            refine J.region ?_
            refine O.p (Pu.move rfl) rfl ?_
            refine O.p (Pu.add' rfl rfl (by first | omega | (simp only [List.length_append, List.length_cons, List.length_nil, List.length_set]; omega))) rfl ?_
            refine O.p (Pu.assign rfl) rfl ?_
            refine O.nil ?_
            exact J.lp ⟨k + 1, y + 1, n, m, true⟩ (show (k + 1) ≤ l.length ∧ ((y + 1), n) = upI (Mono.passG s) (0, 0) l (k + 1) ∧ (m, true) = upI (Mono.leastG s) (0, false) l (k + 1) ∧ 0 ≤ (y + 1) ∧ (y + 1) ≤ (k + 1) ∧ 0 ≤ n ∧ n ≤ (k + 1) from ⟨by omega, (by rw [upI_succ (by assumption), ← hs1]; clear hs1 hs2; simp_all [Mono.passG, Mono.passF]), (by rw [upI_succ (by assumption), ← hs2]; clear hs1 hs2; simp_all [Mono.leastG, Mono.leastF] <;> intros <;> omega), by omega, by omega, by omega, by omega⟩) (show l.length - (k + 1) < l.length - k from (by first | omega | (simp only [List.length_append, List.length_cons, List.length_nil, List.length_set]; omega))) ⟨rfl, rfl, rfl, rfl, rfl, rfl, rfl, rfl, rfl, rfl, (congrArg (fun z => some (Value.int .i64 z)) (by omega : ((k : Int) + 1 : Int) = ((k + 1) : Int))), trivial⟩ [] (by decide) rfl
      ·
        have p17 := of_decide_eq_false h9
        refine J.region ?_
        refine O.p (Pu.move rfl) rfl ?_
        refine O.p (Pu.add' rfl rfl (by first | omega | (simp only [List.length_append, List.length_cons, List.length_nil, List.length_set]; omega))) rfl ?_
        refine O.p (Pu.assign rfl) rfl ?_
        refine O.nil ?_
        refine J.seq ?_
        refine J.seq ?_
        refine J.region ?_
        refine O.p (Pu.move rfl) rfl ?_
        refine O.p (Pu.not rfl) rfl ?_
        refine O.p (Pu.move rfl) rfl ?_
        refine by_bool (!q) (fun h18 => ?_) (fun h18 => ?_)
        ·
          have h19 : q = false := not_flip h18
          subst h19
          refine O.gskip (t := 38) rfl rfl (no_bool (by decide)) rfl rfl ?_
          refine O.gskip (t := 38) rfl rfl (no_bool (by decide)) rfl rfl ?_
          refine O.gskip (t := 38) rfl rfl (no_bool (by decide)) rfl rfl ?_
          refine O.gskip (t := 38) rfl rfl (no_bool (by decide)) rfl rfl ?_
          refine O.gskip (t := 38) rfl rfl (no_bool (by decide)) rfl rfl ?_
          refine O.gskip (t := 38) rfl rfl (no_bool (by decide)) rfl rfl ?_
          refine O.gskip (t := 38) rfl rfl (no_bool (by decide)) rfl rfl ?_
          refine O.p (Pu.pickT rfl rfl rfl) rfl ?_
          refine O.nil ?_
          refine J.condT rfl rfl ?_
          refine J.region ?_
          refine O.p (Pu.move rfl) rfl ?_
          refine O.p (Pu.move rfl) rfl ?_
          refine O.q (Qt.idxM Try.runUnderlying22 Try.sizeOf93 rfl (Src.ro 0 rfl) rfl (by first | omega | (simp only [List.length_append, List.length_cons, List.length_nil, List.length_set]; omega)) (by first | omega | (simp only [List.length_append, List.length_cons, List.length_nil, List.length_set]; omega))) rfl ?_
          refine O.p (Pu.fieldAddr (off' := voff lv + ((k : Int)).toNat * 7 + 6) Try.runUnderlying93 rfl Try.sizeOf3 rfl rfl rfl) rfl ?_
          refine O.q (Qt.ld rfl (Cel.eltM (Src.ro 0 rfl) he4) (o := (voff lv + k * 7)) (off := 6) (by omega) (Cut.one Try.isAgg3 rfl)) rfl ?_
          refine O.p (Pu.assign rfl) rfl ?_
          refine O.nil ?_
          refine J.region ?_
          refine O.p (Pu.assign rfl) rfl ?_
          refine O.nil ?_
          refine J.blk ?_
          refine J.region ?_
          refine O.p (Pu.move rfl) rfl ?_
          refine O.p (Pu.add' rfl rfl (by first | omega | (simp only [List.length_append, List.length_cons, List.length_nil, List.length_set]; omega))) rfl ?_
          refine O.p (Pu.assign rfl) rfl ?_
          refine O.nil ?_
          exact J.lp ⟨k + 1, y, n + 1, e4.b, true⟩ (show (k + 1) ≤ l.length ∧ (y, (n + 1)) = upI (Mono.passG s) (0, 0) l (k + 1) ∧ (e4.b, true) = upI (Mono.leastG s) (0, false) l (k + 1) ∧ 0 ≤ y ∧ y ≤ (k + 1) ∧ 0 ≤ (n + 1) ∧ (n + 1) ≤ (k + 1) from ⟨by omega, (by rw [upI_succ (by assumption), ← hs1]; clear hs1 hs2; simp_all [Mono.passG, Mono.passF]), (by rw [upI_succ (by assumption), ← hs2]; clear hs1 hs2; simp_all [Mono.leastG, Mono.leastF] <;> intros <;> omega), by omega, by omega, by omega, by omega⟩) (show l.length - (k + 1) < l.length - k from (by first | omega | (simp only [List.length_append, List.length_cons, List.length_nil, List.length_set]; omega))) ⟨rfl, rfl, rfl, rfl, rfl, rfl, rfl, rfl, rfl, rfl, (congrArg (fun z => some (Value.int .i64 z)) (by omega : ((k : Int) + 1 : Int) = ((k + 1) : Int))), trivial⟩ [] (by decide) rfl
        ·
          have h20 : q = true := not_flip h18
          subst h20
          refine O.gq (t := 38) rfl rfl rfl rfl (Pu.qt (Pu.move rfl)) rfl ?_
          refine O.gq (t := 38) rfl rfl rfl rfl (Pu.qt (Pu.move rfl)) rfl ?_
          refine O.gq (t := 38) rfl rfl rfl rfl (Qt.idxM Try.runUnderlying22 Try.sizeOf93 rfl (Src.ro 0 rfl) rfl (by first | omega | (simp only [List.length_append, List.length_cons, List.length_nil, List.length_set]; omega)) (by first | omega | (simp only [List.length_append, List.length_cons, List.length_nil, List.length_set]; omega))) rfl ?_
          refine O.gq (t := 38) rfl rfl rfl rfl (Pu.qt (Pu.fieldAddr (off' := voff lv + ((k : Int)).toNat * 7 + 6) Try.runUnderlying93 rfl Try.sizeOf3 rfl rfl rfl)) rfl ?_
          refine O.gq (t := 38) rfl rfl rfl rfl (Qt.ld rfl (Cel.eltM (Src.ro 0 rfl) he4) (o := (voff lv + k * 7)) (off := 6) (by omega) (Cut.one Try.isAgg3 rfl)) rfl ?_
          refine O.gq (t := 38) rfl rfl rfl rfl (Pu.qt (Pu.move rfl)) rfl ?_
          refine O.gq (t := 38) rfl rfl rfl rfl (Pu.qt (Pu.lss rfl rfl)) rfl ?_
          refine O.p (Pu.pickF rfl rfl rfl) rfl ?_
          refine O.nil ?_
          refine J.cond rfl (fun h21 => ?_) (fun h21 => ?_)
          ·
            have p22 := of_decide_eq_true h21
            refine J.region ?_
            refine O.p (Pu.move rfl) rfl ?_
            refine O.p (Pu.move rfl) rfl ?_
            refine O.q (Qt.idxM Try.runUnderlying22 Try.sizeOf93 rfl (Src.ro 0 rfl) rfl (by first | omega | (simp only [List.length_append, List.length_cons, List.length_nil, List.length_set]; omega)) (by first | omega | (simp only [List.length_append, List.length_cons, List.length_nil, List.length_set]; omega))) rfl ?_
            refine O.p (Pu.fieldAddr (off' := voff lv + ((k : Int)).toNat * 7 + 6) Try.runUnderlying93 rfl Try.sizeOf3 rfl rfl rfl) rfl ?_
            refine O.q (Qt.ld rfl (Cel.eltM (Src.ro 0 rfl) he4) (o := (voff lv + k * 7)) (off := 6) (by omega) (Cut.one Try.isAgg3 rfl)) rfl ?_
            refine O.p (Pu.assign rfl) rfl ?_
            refine O.nil ?_
            refine J.region ?_
            refine O.p (Pu.assign rfl) rfl ?_
            refine O.nil ?_
            refine J.blk ?_
            refine J.region ?_
            refine O.p (Pu.move rfl) rfl ?_
            refine O.p (Pu.add' rfl rfl (by first | omega | (simp only [List.length_append, List.length_cons, List.length_nil, List.length_set]; omega))) rfl ?_
            refine O.p (Pu.assign rfl) rfl ?_
            refine O.nil ?_
            exact J.lp ⟨k + 1, y, n + 1, e4.b, true⟩ (show (k + 1) ≤ l.length ∧ (y, (n + 1)) = upI (Mono.passG s) (0, 0) l (k + 1) ∧ (e4.b, true) = upI (Mono.leastG s) (0, false) l (k + 1) ∧ 0 ≤ y ∧ y ≤ (k + 1) ∧ 0 ≤ (n + 1) ∧ (n + 1) ≤ (k + 1) from ⟨by omega, (by rw [upI_succ (by assumption), ← hs1]; clear hs1 hs2; simp_all [Mono.passG, Mono.passF]), (by rw [upI_succ (by assumption), ← hs2]; clear hs1 hs2; simp_all [Mono.leastG, Mono.leastF] <;> intros <;> omega), by omega, by omega, by omega, by omega⟩) (show l.length - (k + 1) < l.length - k from (by first | omega | (simp only [List.length_append, List.length_cons, List.length_nil, List.length_set]; omega))) ⟨rfl, rfl, rfl, rfl, rfl, rfl, rfl, rfl, rfl, rfl, (congrArg (fun z => some (Value.int .i64 z)) (by omega : ((k : Int) + 1 : Int) = ((k + 1) : Int))), trivial⟩ [] (by decide) rfl
          ·
            have p23 := of_decide_eq_false h21
            refine J.skip ?_
            refine J.region ?_
            refine O.p (Pu.assign rfl) rfl ?_
            refine O.nil ?_
            refine J.blk ?_
            refine J.region ?_
            refine O.p (Pu.move rfl) rfl ?_
            refine O.p (Pu.add' rfl rfl (by first | omega | (simp only [List.length_append, List.length_cons, List.length_nil, List.length_set]; omega))) rfl ?_
            refine O.p (Pu.assign rfl) rfl ?_
            refine O.nil ?_
            exact J.lp ⟨k + 1, y, n + 1, m, true⟩ (show (k + 1) ≤ l.length ∧ (y, (n + 1)) = upI (Mono.passG s) (0, 0) l (k + 1) ∧ (m, true) = upI (Mono.leastG s) (0, false) l (k + 1) ∧ 0 ≤ y ∧ y ≤ (k + 1) ∧ 0 ≤ (n + 1) ∧ (n + 1) ≤ (k + 1) from ⟨by omega, (by rw [upI_succ (by assumption), ← hs1]; clear hs1 hs2; simp_all [Mono.passG, Mono.passF]), (by rw [upI_succ (by assumption), ← hs2]; clear hs1 hs2; simp_all [Mono.leastG, Mono.leastF] <;> intros <;> omega), by omega, by omega, by omega, by omega⟩) (show l.length - (k + 1) < l.length - k from (by first | omega | (simp only [List.length_append, List.length_cons, List.length_nil, List.length_set]; omega))) ⟨rfl, rfl, rfl, rfl, rfl, rfl, rfl, rfl, rfl, rfl, (congrArg (fun z => some (Value.int .i64 z)) (by omega : ((k : Int) + 1 : Int) = ((k + 1) : Int))), trivial⟩ [] (by decide) rfl
  ·
    have p24 := of_decide_eq_false h2
    refine J.exit _ rfl ?_
    refine J.seq ?_
    refine J.region ?_
    refine O.p (Pu.move rfl) rfl ?_
    refine O.p (Pu.move rfl) rfl ?_
    refine O.p (Pu.move rfl) rfl ?_
    refine O.p (Pu.move rfl) rfl ?_
    refine O.p (Pu.assign rfl) rfl ?_
    refine O.p (Pu.assign rfl) rfl ?_
    refine O.p (Pu.assign rfl) rfl ?_
    refine O.p (Pu.assign rfl) rfl ?_
    refine O.nil ?_
    exact J.ret (Fin.ret (rs := [.tmp 4, .tmp 5, .tmp 6, .tmp 7]) rfl [_, _, _, _] ⟨rfl, rfl, rfl, rfl, trivial⟩ [] (by decide) [] rfl ⟨(by have hk2 : k = l.length := (by omega); rw [Mono.passed_eq2, Mono.least_eq2, ← hk2, ← hs1, ← hs2]; rfl), rfl⟩)

set_option maxRecDepth 100000 in
theorem r42_same (av bv : Value) (l : List Run) (hl : l.length ≤ 100000) : Tri Try.prog 14 #[av, bv] [rd av 4 (l.map Run.cells), rd bv 4 (l.map Run.cells)] [] (fun v L' => v = .bool true ∧ L' = []) := by
  refine Tri.enter (args := [av, bv]) (body := _) 32 Try.func14 rfl Try.ntmps14 rfl ?_
  intro w0
  refine J.seq ?_
  refine J.region ?_
  refine O.p (Pu.assign rfl) rfl ?_
  refine O.nil ?_
  refine J.seq ?_
  refine J.seq ?_
  refine J.region ?_
  refine O.p (Pu.move rfl) rfl ?_
  refine O.q (Qt.lenM Try.runUnderlying36 rfl (Src.ro 0 rfl)) rfl ?_
  refine O.p (Pu.move rfl) rfl ?_
  refine O.q (Qt.lenM Try.runUnderlying36 rfl (Src.ro 1 rfl)) rfl ?_
  refine O.p (Pu.neq rfl rfl) rfl ?_
  refine O.nil ?_
  refine J.condF rfl (by simp) ?_
  refine J.skip ?_
  refine J.seq ?_
  refine J.seq ?_
  refine J.region ?_
  refine O.p (Pu.assign rfl) rfl ?_
  refine O.nil ?_
  refine J.block ?_
  refine J.loop (X := Nat) (fun ξ => ξ ≤ l.length) (fun ξ => [(0, av), (1, bv), (5, .int .i64 (ξ : Int))]) (fun ξ => []) (fun ξ => l.length - ξ) 0 (show 0 ≤ l.length from (by omega)) ⟨rfl, rfl, (congrArg (fun z => some (Value.int .i64 z)) (by omega : (0 : Int) = (0 : Int))), trivial⟩ [] (by decide) rfl ?_
  rintro k hq1
  obtain hk : k ≤ l.length := hq1
  show J _ _ [(0, av), (1, bv), (5, .int .i64 (k : Int))] []
  refine J.seq ?_
  refine J.seq ?_
  refine J.region ?_
  refine O.p (Pu.move rfl) rfl ?_
  refine O.p (Pu.move rfl) rfl ?_
  refine O.q (Qt.lenM Try.runUnderlying36 rfl (Src.ro 0 rfl)) rfl ?_
  refine O.p (Pu.lss rfl rfl) rfl ?_
  refine O.p (Pu.move rfl) rfl ?_
  refine by_bool (decide ((k : Int) < (l.length : Int))) (fun h2 => ?_) (fun h2 => ?_)
  ·
    have p3 := of_decide_eq_true h2
    refine O.gq (t := 15) rfl rfl h2 rfl (Pu.qt (Pu.move rfl)) rfl ?_
    refine O.gq (t := 15) rfl rfl h2 rfl (Pu.qt (Pu.move rfl)) rfl ?_
    refine O.gq (t := 15) rfl rfl h2 rfl (Qt.lenM Try.runUnderlying36 rfl (Src.ro 1 rfl)) rfl ?_
    refine O.gq (t := 15) rfl rfl h2 rfl (Pu.qt (Pu.lss rfl rfl)) rfl ?_
    refine O.p (Pu.pickT rfl h2 rfl) rfl ?_
    refine O.nil ?_
    refine J.condT rfl h2 ?_
    refine J.skip ?_
    refine J.seq ?_
    refine J.block ?_
    refine J.seq ?_
    refine J.drawStill Try.mixed (by kernel_rfl) ?_
    refine S.p (Pu.move rfl) rfl ?_
    refine S.p (Pu.move rfl) rfl ?_
    obtain ⟨e4, he4⟩ : ∃ e, l[k]? = some e := ⟨_, List.getElem?_eq_getElem (by first | omega | (simp only [List.length_append, List.length_cons, List.length_nil, List.length_set]; omega))⟩
    refine S.q (Qt.idxM Try.runUnderlying36 Try.sizeOf25 rfl (Src.ro 0 rfl) rfl (by first | omega | (simp only [List.length_append, List.length_cons, List.length_nil, List.length_set]; omega)) (by first | omega | (simp only [List.length_append, List.length_cons, List.length_nil, List.length_set]; omega))) rfl ?_
    refine S.q (Qt.ld rfl (Cel.eltM (Src.ro 0 rfl) he4) (o := (voff av + k * 4)) (off := 0) (by omega) (Cut.agg [.int .i64 e4.frm, .int .i64 e4.to, .int .i64 e4.pass, .int .i64 e4.stop] Try.isAgg25 Try.sizeOf25 rfl rfl)) rfl ?_
    refine S.p (Pu.move rfl) rfl ?_
    refine S.p (Pu.move rfl) rfl ?_
    refine S.q (Qt.idxM Try.runUnderlying36 Try.sizeOf25 rfl (Src.ro 1 rfl) rfl (by first | omega | (simp only [List.length_append, List.length_cons, List.length_nil, List.length_set]; omega)) (by first | omega | (simp only [List.length_append, List.length_cons, List.length_nil, List.length_set]; omega))) rfl ?_
    refine S.q (Qt.ld rfl (Cel.eltM (Src.ro 1 rfl) he4) (o := (voff bv + k * 4)) (off := 0) (by omega) (Cut.agg [.int .i64 e4.frm, .int .i64 e4.to, .int .i64 e4.pass, .int .i64 e4.stop] Try.isAgg25 Try.sizeOf25 rfl rfl)) rfl ?_
    refine S.p (Pu.neqI [e4.frm, e4.to, e4.pass, e4.stop] [e4.frm, e4.to, e4.pass, e4.stop] Try.underlying25 Try.stoodInHeld25 Try.eqGuardType25 (fint25 Try.underlying25) rfl rfl rfl rfl) rfl ?_
    refine S.endJ ?_
    refine J.condF rfl (not_of_true (by simp)) ?_
    refine J.skip ?_
    refine J.blk ?_
    refine J.region ?_
    refine O.p (Pu.move rfl) rfl ?_
    refine O.p (Pu.add' rfl rfl (by first | omega | (simp only [List.length_append, List.length_cons, List.length_nil, List.length_set]; omega))) rfl ?_
    refine O.p (Pu.assign rfl) rfl ?_
    refine O.nil ?_
    exact J.lp (k + 1) (show (k + 1) ≤ l.length from (by omega)) (show l.length - (k + 1) < l.length - k from (by first | omega | (simp only [List.length_append, List.length_cons, List.length_nil, List.length_set]; omega))) ⟨rfl, rfl, (congrArg (fun z => some (Value.int .i64 z)) (by omega : ((k : Int) + 1 : Int) = ((k + 1) : Int))), trivial⟩ [] (by decide) rfl
  ·
    have p5 := of_decide_eq_false h2
    refine O.gskip (t := 15) rfl rfl (no_bool (by rw [h2]; decide)) rfl rfl ?_
    refine O.gskip (t := 15) rfl rfl (no_bool (by rw [h2]; decide)) rfl rfl ?_
    refine O.gskip (t := 15) rfl rfl (no_bool (by rw [h2]; decide)) rfl rfl ?_
    refine O.gskip (t := 15) rfl rfl (no_bool (by rw [h2]; decide)) rfl rfl ?_
    refine O.p (Pu.pickF rfl h2 rfl) rfl ?_
    refine O.nil ?_
    refine J.condF rfl rfl ?_
    refine J.exit _ rfl ?_
    refine J.seq ?_
    refine J.region ?_
    refine O.p (Pu.assign rfl) rfl ?_
    refine O.nil ?_
    exact J.ret (Fin.ret (rs := [.tmp 4]) rfl [_] ⟨rfl, trivial⟩ [] (by decide) [] rfl ⟨rfl, rfl⟩)

end Go.Proofs.Ytghhjhjpccipaaa
