/-
  Walks, printed by a program of mine (lk.py): each function meets its contract.
-/
import Derived.KernelRfl
import Derived.Test.YtghhjhjpccipaaaW2
namespace Go.Proofs.Ytghhjhjpccipaaa
open Go Go.LK

set_option maxRecDepth 100000 in
theorem mono_wrong (s : Int) (lv : Value) (l : List Ev) (hl : l.length ≤ 100000) : Tri Try.prog 9 #[.int .i64 s, lv] [rd lv 7 (l.map Ev.cells)] [] (fun v L' => v = .tuple #[.agg (Run.cells (Mono.wrong s l).1).toArray, .bool (Mono.wrong s l).2] ∧ L' = []) := by
  have hrl := Mono.runs_len s l
  refine Tri.enter (args := [.int .i64 s, lv]) (body := _) 24 Try.func9 rfl Try.ntmps9 rfl ?_
  intro w0
  refine J.seq ?_
  refine J.region ?_
  refine O.l (Lo.alloc [.int .i64 0, .int .i64 0, .int .i64 0, .int .i64 0] (by exact Try.zeroValue25) rfl) rfl ?_
  rintro _ _ ⟨g1, rfl, rfl⟩
  refine O.p (Pu.assign rfl) rfl ?_
  refine O.nil ?_
  refine J.seq ?_
  refine J.seq ?_
  refine J.region ?_
  refine O.p (Pu.move rfl) rfl ?_
  refine O.p (Pu.move rfl) rfl ?_
  refine O.l (Lo.call [.int .i64 s, lv] (by exact Try.call15) rfl (mono_runs s lv l (by omega)) [] [0] (by decide) rfl _ rfl (RoOk.ro 0 rfl [] rfl RoOk.nil)) rfl ?_
  rintro v2 _ ⟨_, rfl, rfl⟩
  refine O.q (Qt.lenM Try.runUnderlying36 rfl (Src.row 0 rfl)) rfl ?_
  refine O.p (Pu.move rfl) rfl ?_
  refine O.nil ?_
  refine J.block ?_
  refine J.loop (X := Nat) (fun ξ => ξ ≤ (Mono.runs s l).length ∧ ∀ j x, j < ξ → (Mono.runs s l)[j]? = some x → Mono.bad x = false) (fun ξ => [(4, .pointer (some ⟨g1, 0, none⟩)), (10, v2), (11, .int .i64 ((Mono.runs s l).length : Int)), (12, .int .i64 (ξ : Int))]) (fun ξ => [row v2 25 4 ((Mono.runs s l).map Run.cells), var g1 [.int .i64 0, .int .i64 0, .int .i64 0, .int .i64 0] 25]) (fun ξ => (Mono.runs s l).length - ξ) 0 (show 0 ≤ (Mono.runs s l).length ∧ ∀ j x, j < 0 → (Mono.runs s l)[j]? = some x → Mono.bad x = false from ⟨by omega, fun _ _ h => absurd h (by omega)⟩) ⟨rfl, rfl, rfl, (congrArg (fun z => some (Value.int .i64 z)) (by omega : (0 : Int) = (0 : Int))), trivial⟩ [0, 1] (by decide) rfl ?_
  rintro k hq3
  obtain ⟨hk, hno⟩ : k ≤ (Mono.runs s l).length ∧ ∀ j x, j < k → (Mono.runs s l)[j]? = some x → Mono.bad x = false := hq3
  show J _ _ [(4, .pointer (some ⟨g1, 0, none⟩)), (10, v2), (11, .int .i64 ((Mono.runs s l).length : Int)), (12, .int .i64 (k : Int))] [row v2 25 4 ((Mono.runs s l).map Run.cells), var g1 [.int .i64 0, .int .i64 0, .int .i64 0, .int .i64 0] 25]
  refine J.seq ?_
  refine J.region ?_
  refine O.p (Pu.lss rfl rfl) rfl ?_
  refine O.nil ?_
  refine J.seq ?_
  refine J.cond rfl (fun h4 => ?_) (fun h4 => ?_)
  ·
    have p5 := of_decide_eq_true h4
    refine J.skip ?_
    refine J.seq ?_
    refine J.block ?_
    refine J.seq ?_
    refine J.region ?_
    obtain ⟨e6, he6⟩ : ∃ e, (Mono.runs s l)[k]? = some e := ⟨_, List.getElem?_eq_getElem (by first | omega | (simp only [List.length_append, List.length_cons, List.length_nil, List.length_set]; omega))⟩
    refine O.q (Qt.idxM Try.runUnderlying36 Try.sizeOf25 rfl (Src.row 0 rfl) rfl (by first | omega | (simp only [List.length_append, List.length_cons, List.length_nil, List.length_set]; omega)) (by first | omega | (simp only [List.length_append, List.length_cons, List.length_nil, List.length_set]; omega))) rfl ?_
    refine O.q (Qt.ld rfl (Cel.eltM (Src.row 0 rfl) he6) (o := (voff v2 + k * 4)) (off := 0) (by omega) (Cut.agg [.int .i64 e6.frm, .int .i64 e6.to, .int .i64 e6.pass, .int .i64 e6.stop] Try.isAgg25 Try.sizeOf25 rfl rfl)) rfl ?_
    refine O.l (Lo.alloc [.int .i64 0, .int .i64 0, .int .i64 0, .int .i64 0] (by exact Try.zeroValue25) rfl) rfl ?_
    rintro _ _ ⟨g7, rfl, rfl⟩
    refine O.l0 (Lo.store 0 (vs := [.int .i64 e6.frm, .int .i64 e6.to, .int .i64 e6.pass, .int .i64 e6.stop]) [.int .i64 e6.frm, .int .i64 e6.to, .int .i64 e6.pass, .int .i64 e6.stop] rfl rfl rfl (by exact Try.sizeOf25) rfl rfl rfl rfl rfl) ?_
    rintro _ _ rfl
    refine O.nil ?_
    refine J.seq ?_
    refine J.region ?_
    refine O.p (Pu.fieldAddr (off' := 2) Try.runUnderlying25 rfl Try.sizeOf3 rfl rfl rfl) rfl ?_
    refine O.q (Qt.ld rfl (Cel.var 0 rfl) (o := 0) (off := 2) rfl (Cut.one Try.isAgg3 rfl)) rfl ?_
    refine O.p (Pu.fieldAddr (off' := 3) Try.runUnderlying25 rfl Try.sizeOf3 rfl rfl rfl) rfl ?_
    refine O.q (Qt.ld rfl (Cel.var 0 rfl) (o := 0) (off := 3) rfl (Cut.one Try.isAgg3 rfl)) rfl ?_
    refine O.p (Pu.geq rfl rfl) rfl ?_
    refine O.nil ?_
    refine J.cond rfl (fun h8 => ?_) (fun h8 => ?_)
    ·
      have p9 := of_decide_eq_true h8
      refine J.seq ?_
      refine J.region ?_
      refine O.q (Qt.ld rfl (Cel.var 0 rfl) (o := 0) (off := 0) rfl (Cut.agg [.int .i64 e6.frm, .int .i64 e6.to, .int .i64 e6.pass, .int .i64 e6.stop] Try.isAgg25 Try.sizeOf25 rfl rfl)) rfl ?_
      refine O.l0 (Lo.store 2 (vs := [.int .i64 e6.frm, .int .i64 e6.to, .int .i64 e6.pass, .int .i64 e6.stop]) [.int .i64 e6.frm, .int .i64 e6.to, .int .i64 e6.pass, .int .i64 e6.stop] rfl rfl rfl (by exact Try.sizeOf25) rfl rfl rfl rfl rfl) ?_
      rintro _ _ rfl
      refine O.p (Pu.assign rfl) rfl ?_
      refine O.nil ?_
      exact J.ret (Fin.ret (rs := [.cell 4 25, .tmp 5]) rfl [_, _] ⟨⟨_, _, 0, 0, _, rfl, (Cel.var 2 rfl), rfl, (Cut.agg [.int .i64 e6.frm, .int .i64 e6.to, .int .i64 e6.pass, .int .i64 e6.stop] Try.isAgg25 Try.sizeOf25 rfl rfl)⟩, rfl, trivial⟩ [] (by decide) [] rfl ⟨(by simp [vOf, Run.cells, Mono.wrong, find_at hno (by assumption) (show Mono.bad _ = true from (by assumption))]), rfl⟩)
    ·
      have p10 := of_decide_eq_false h8
      refine J.skip ?_
      refine J.blk ?_
      refine J.region ?_
      refine O.p (Pu.add' rfl rfl (by first | omega | (simp only [List.length_append, List.length_cons, List.length_nil, List.length_set]; omega))) rfl ?_
      refine O.p (Pu.move rfl) rfl ?_
      refine O.nil ?_
      exact J.lp (k + 1) (show (k + 1) ≤ (Mono.runs s l).length ∧ ∀ j x, j < (k + 1) → (Mono.runs s l)[j]? = some x → Mono.bad x = false from ⟨by omega, none_step hno (by assumption) (show Mono.bad _ = false from (by assumption))⟩) (show (Mono.runs s l).length - (k + 1) < (Mono.runs s l).length - k from (by first | omega | (simp only [List.length_append, List.length_cons, List.length_nil, List.length_set]; omega))) ⟨rfl, rfl, rfl, (congrArg (fun z => some (Value.int .i64 z)) (by omega : ((k : Int) + 1 : Int) = ((k + 1) : Int))), trivial⟩ [1, 2] (by decide) rfl
  ·
    have p11 := of_decide_eq_false h4
    refine J.exit _ rfl ?_
    refine J.seq ?_
    refine J.region ?_
    refine O.p (Pu.build [] [.int .i64 0, .int .i64 0, .int .i64 0, .int .i64 0] #[(0, 1), (1, 1), (2, 1), (3, 1)] Try.runUnderlying25 Try.zeroValue25 (places25 Try.underlying25) rfl (by kernel_rfl)) rfl ?_
    refine O.l0 (Lo.store 1 (vs := [.int .i64 0, .int .i64 0, .int .i64 0, .int .i64 0]) [.int .i64 0, .int .i64 0, .int .i64 0, .int .i64 0] rfl rfl rfl (by exact Try.sizeOf25) rfl rfl rfl rfl rfl) ?_
    rintro _ _ rfl
    refine O.p (Pu.assign rfl) rfl ?_
    refine O.nil ?_
    exact J.ret (Fin.ret (rs := [.cell 4 25, .tmp 5]) rfl [_, _] ⟨⟨_, _, 0, 0, _, rfl, (Cel.var 1 rfl), rfl, (Cut.agg [.int .i64 0, .int .i64 0, .int .i64 0, .int .i64 0] Try.isAgg25 Try.sizeOf25 rfl rfl)⟩, rfl, trivial⟩ [] (by decide) [] rfl ⟨(by simp [vOf, Run.cells, Mono.wrong, find_no hno (by omega)]), rfl⟩)

set_option maxRecDepth 100000 in
theorem trace_of1 (e : Ev) (g : Nat) (s : Int) : Tri Try.prog 88 #[.agg #[.int .i64 e.kind, .int .i64 e.tick, .int .i64 e.s, .int .i64 e.id, .int .i64 e.code, .int .i64 e.a, .int .i64 e.b], .pointer (some ⟨g, 0, none⟩)] [var g [.int .i64 s] 3] [] (fun v L' => v = .bool (decide (e.s = s)) ∧ L' = []) := by
  refine Tri.enter (args := [.agg #[.int .i64 e.kind, .int .i64 e.tick, .int .i64 e.s, .int .i64 e.id, .int .i64 e.code, .int .i64 e.a, .int .i64 e.b], .pointer (some ⟨g, 0, none⟩)]) (body := _) 8 Try.func88 rfl Try.ntmps88 rfl ?_
  intro w0
  refine J.seq ?_
  refine J.region ?_
  refine O.l (Lo.box [.int .i64 e.kind, .int .i64 e.tick, .int .i64 e.s, .int .i64 e.id, .int .i64 e.code, .int .i64 e.a, .int .i64 e.b] rfl rfl) rfl ?_
  rintro _ _ ⟨g1, rfl, rfl⟩
  refine O.p (Pu.assign rfl) rfl ?_
  refine O.nil ?_
  refine J.seq ?_
  refine J.region ?_
  refine O.p (Pu.fieldAddr (off' := 2) Try.runUnderlying93 rfl Try.sizeOf3 rfl rfl rfl) rfl ?_
  refine O.q (Qt.ld rfl (Cel.var 0 rfl) (o := 0) (off := 2) rfl (Cut.one Try.isAgg3 rfl)) rfl ?_
  refine O.q (Qt.ld rfl (Cel.roVar 0 rfl) (o := 0) (off := 0) rfl (Cut.one Try.isAgg3 rfl)) rfl ?_
  refine O.p (Pu.eql rfl rfl) rfl ?_
  refine O.p (Pu.assign rfl) rfl ?_
  refine O.nil ?_
  exact J.ret (Fin.ret (rs := [.tmp 3]) rfl [_] ⟨rfl, trivial⟩ [] (by decide) [] rfl ⟨rfl, rfl⟩)

set_option maxRecDepth 100000 in
theorem trace_some (fid : Nat) (caps : List Value) (p : Ev → Bool) (RoF : List Sp) (lv : Value) (l : List Ev) (hc : ∀ args w, (callFunc fid args).run Try.prog w = .ok (.enter fid args) w) (hF : ∀ e : Ev, Tri Try.prog fid (([.agg (Ev.cells e).toArray] : List Value) ++ caps).toArray RoF [] (fun v L' => v = .bool (p e) ∧ L' = [])) (hl : l.length ≤ 100000) : Tri Try.prog 87 #[lv, (.func (.func fid) #[] caps.toArray)] (rd lv 7 (l.map Ev.cells) :: RoF) [] (fun v L' => L' = [row v 93 7 ((l.filter p).map Ev.cells)]) := by
  refine Tri.enter (args := [lv, (.func (.func fid) #[] caps.toArray)]) (body := _) 23 Try.func87 rfl Try.ntmps87 rfl ?_
  intro w0
  refine J.seq ?_
  refine J.region ?_
  refine O.p (Pu.assign rfl) rfl ?_
  refine O.nil ?_
  refine J.seq ?_
  refine J.region ?_
  refine O.p (Pu.assign rfl) rfl ?_
  refine O.nil ?_
  refine J.seq ?_
  refine J.seq ?_
  refine J.region ?_
  refine O.p (Pu.move rfl) rfl ?_
  refine O.q (Qt.lenM Try.runUnderlying22 rfl (Src.ro 0 rfl)) rfl ?_
  refine O.p (Pu.move rfl) rfl ?_
  refine O.nil ?_
  refine J.block ?_
  refine J.nilRow 93 7 ?_
  refine J.loop (X := Nat × Value × List Ev) (fun ξ => ξ.1 ≤ l.length ∧ ξ.2.2 = (l.take ξ.1).filter p ∧ ξ.2.2.length ≤ ξ.1) (fun ξ => [(1, (.func (.func fid) #[] caps.toArray)), (4, Value.slice none 0 0), (5, ξ.2.1), (8, lv), (9, .int .i64 (l.length : Int)), (10, .int .i64 (ξ.1 : Int))]) (fun ξ => [row ξ.2.1 93 7 (ξ.2.2.map Ev.cells)]) (fun ξ => l.length - ξ.1) ⟨0, Value.slice none 0 0, []⟩ (show 0 ≤ l.length ∧ ([]) = (l.take 0).filter p ∧ ([]).length ≤ 0 from ⟨by omega, by simp, by simp⟩) ⟨rfl, rfl, rfl, rfl, rfl, (congrArg (fun z => some (Value.int .i64 z)) (by omega : (0 : Int) = (0 : Int))), trivial⟩ [0] (by decide) rfl ?_
  rintro ⟨k, V, out⟩ hq1
  obtain ⟨hk, hst, hlen⟩ : k ≤ l.length ∧ out = (l.take k).filter p ∧ out.length ≤ k := hq1
  show J _ _ [(1, (.func (.func fid) #[] caps.toArray)), (4, Value.slice none 0 0), (5, V), (8, lv), (9, .int .i64 (l.length : Int)), (10, .int .i64 (k : Int))] [row V 93 7 (out.map Ev.cells)]
  refine J.seq ?_
  refine J.region ?_
  refine O.p (Pu.lss rfl rfl) rfl ?_
  refine O.nil ?_
  refine J.seq ?_
  refine J.cond rfl (fun h2 => ?_) (fun h2 => ?_)
  ·
    have p3 := of_decide_eq_true h2
    refine J.skip ?_
    refine J.seq ?_
    refine J.block ?_
    refine J.seq ?_
    refine J.region ?_
    obtain ⟨e4, he4⟩ : ∃ e, l[k]? = some e := ⟨_, List.getElem?_eq_getElem (by first | omega | (simp only [List.length_append, List.length_cons, List.length_nil, List.length_set]; omega))⟩
    refine O.q (Qt.idxM Try.runUnderlying22 Try.sizeOf93 rfl (Src.ro 0 rfl) rfl (by first | omega | (simp only [List.length_append, List.length_cons, List.length_nil, List.length_set]; omega)) (by first | omega | (simp only [List.length_append, List.length_cons, List.length_nil, List.length_set]; omega))) rfl ?_
    refine O.q (Qt.ld rfl (Cel.eltM (Src.ro 0 rfl) he4) (o := (voff lv + k * 7)) (off := 0) (by omega) (Cut.agg [.int .i64 e4.kind, .int .i64 e4.tick, .int .i64 e4.s, .int .i64 e4.id, .int .i64 e4.code, .int .i64 e4.a, .int .i64 e4.b] Try.isAgg93 Try.sizeOf93 rfl rfl)) rfl ?_
    refine O.l (Lo.alloc [.int .i64 0, .int .i64 0, .int .i64 0, .int .i64 0, .int .i64 0, .int .i64 0, .int .i64 0] (by exact Try.zeroValue93) rfl) rfl ?_
    rintro _ _ ⟨g5, rfl, rfl⟩
    refine O.l0 (Lo.store 0 (vs := [.int .i64 e4.kind, .int .i64 e4.tick, .int .i64 e4.s, .int .i64 e4.id, .int .i64 e4.code, .int .i64 e4.a, .int .i64 e4.b]) [.int .i64 e4.kind, .int .i64 e4.tick, .int .i64 e4.s, .int .i64 e4.id, .int .i64 e4.code, .int .i64 e4.a, .int .i64 e4.b] rfl rfl rfl (by exact Try.sizeOf93) rfl rfl rfl rfl rfl) ?_
    rintro _ _ rfl
    refine O.nil ?_
    refine J.seq ?_
    refine J.region ?_
    refine O.p (Pu.move rfl) rfl ?_
    refine O.q (Qt.ld rfl (Cel.var 0 rfl) (o := 0) (off := 0) rfl (Cut.agg [.int .i64 e4.kind, .int .i64 e4.tick, .int .i64 e4.s, .int .i64 e4.id, .int .i64 e4.code, .int .i64 e4.a, .int .i64 e4.b] Try.isAgg93 Try.sizeOf93 rfl rfl)) rfl ?_
    refine O.l (Lo.callV (vs := [.agg #[.int .i64 e4.kind, .int .i64 e4.tick, .int .i64 e4.s, .int .i64 e4.id, .int .i64 e4.code, .int .i64 e4.a, .int .i64 e4.b]]) (caps := caps) hc rfl rfl (hF e4) [] [0, 1] (by decide) rfl _ rfl (RoOk.sub (fun _ hA => List.mem_cons_of_mem _ hA) [] rfl)) rfl ?_
    rintro _ _ ⟨_, ⟨rfl, rfl⟩, rfl⟩
    refine O.nil ?_
    refine J.cond rfl (fun h7 => ?_) (fun h7 => ?_)
    ·
      refine J.region ?_
      refine O.p (Pu.move rfl) rfl ?_
      refine O.q (Qt.ld rfl (Cel.var 0 rfl) (o := 0) (off := 0) rfl (Cut.agg [.int .i64 e4.kind, .int .i64 e4.tick, .int .i64 e4.s, .int .i64 e4.id, .int .i64 e4.code, .int .i64 e4.a, .int .i64 e4.b] Try.isAgg93 Try.sizeOf93 rfl rfl)) rfl ?_
      refine O.l (Lo.buildM (s := 7) Ev.cells [e4] [(0, .agg #[.int .i64 e4.kind, .int .i64 e4.tick, .int .i64 e4.s, .int .i64 e4.id, .int .i64 e4.code, .int .i64 e4.a, .int .i64 e4.b])] (by exact Try.runUnderlying22) (by exact Try.sizeOf93) (by exact Try.zeroValue93) rfl rfl rfl (by kernel_rfl) rfl rfl) rfl ?_
      rintro V8 _ rfl
      refine O.l (Lo.appendM (s := 7) 2 (by exact Try.underlying22) (by exact (info93).1) (by exact (info93).2.1) (by exact (info93).2.2.1) (by exact (info93).2.2.2) rfl rfl rfl rfl rfl (Src.row 0 rfl) Ev.one (by first | omega | (simp only [List.length_append, List.length_cons, List.length_nil, List.length_set]; omega)) (by first | omega | (simp only [List.length_append, List.length_cons, List.length_nil, List.length_set]; omega))) rfl ?_
      rintro V9 _ rfl
      refine O.p (Pu.assign rfl) rfl ?_
      refine O.nil ?_
      refine J.blk ?_
      refine J.region ?_
      refine O.p (Pu.add' rfl rfl (by first | omega | (simp only [List.length_append, List.length_cons, List.length_nil, List.length_set]; omega))) rfl ?_
      refine O.p (Pu.move rfl) rfl ?_
      refine O.nil ?_
      exact J.lp ⟨k + 1, V9, out ++ ([e4])⟩ (show (k + 1) ≤ l.length ∧ (out ++ ([e4])) = (l.take (k + 1)).filter p ∧ (out ++ ([e4])).length ≤ (k + 1) from ⟨by omega, by rw [List.take_add_one, (by assumption : l[k]? = some _), List.filter_append, ← hst]; simp [*], by first | omega | (simp; omega)⟩) (show l.length - (k + 1) < l.length - k from (by first | omega | (simp only [List.length_append, List.length_cons, List.length_nil, List.length_set]; omega))) ⟨rfl, rfl, rfl, rfl, rfl, (congrArg (fun z => some (Value.int .i64 z)) (by omega : ((k : Int) + 1 : Int) = ((k + 1) : Int))), trivial⟩ [2] (by decide) rfl
    ·
      refine J.skip ?_
      refine J.blk ?_
      refine J.region ?_
      refine O.p (Pu.add' rfl rfl (by first | omega | (simp only [List.length_append, List.length_cons, List.length_nil, List.length_set]; omega))) rfl ?_
      refine O.p (Pu.move rfl) rfl ?_
      refine O.nil ?_
      exact J.lp ⟨k + 1, V, out⟩ (show (k + 1) ≤ l.length ∧ out = (l.take (k + 1)).filter p ∧ out.length ≤ (k + 1) from ⟨by omega, by rw [List.take_add_one, (by assumption : l[k]? = some _), List.filter_append, ← hst]; simp [*], by first | omega | (simp; omega)⟩) (show l.length - (k + 1) < l.length - k from (by first | omega | (simp only [List.length_append, List.length_cons, List.length_nil, List.length_set]; omega))) ⟨rfl, rfl, rfl, rfl, rfl, (congrArg (fun z => some (Value.int .i64 z)) (by omega : ((k : Int) + 1 : Int) = ((k + 1) : Int))), trivial⟩ [1] (by decide) rfl
  ·
    have p10 := of_decide_eq_false h2
    refine J.exit _ rfl ?_
    refine J.seq ?_
    refine J.region ?_
    refine O.p (Pu.move rfl) rfl ?_
    refine O.p (Pu.assign rfl) rfl ?_
    refine O.nil ?_
    exact J.ret (Fin.ret (rs := [.tmp 4]) rfl [_] ⟨rfl, trivial⟩ [0] (by decide) [row V 93 7 (out.map Ev.cells)] rfl (congrArg (fun o => ([row V 93 7 (o.map Ev.cells)] : List Sp)) (show out = l.filter p from (by rw [hst, List.take_of_length_le (by omega)]))))

set_option maxRecDepth 100000 in
theorem trace_of (s : Int) (lv : Value) (l : List Ev) (hl : l.length ≤ 100000) : Tri Try.prog 50 #[.int .i64 s, lv] [rd lv 7 (l.map Ev.cells)] [] (fun v L' => L' = [row v 93 7 ((Mono.of s l).map Ev.cells)]) := by
  refine Tri.enter (args := [.int .i64 s, lv]) (body := _) 8 Try.func50 rfl Try.ntmps50 rfl ?_
  intro w0
  refine J.seq ?_
  refine J.region ?_
  refine O.l (Lo.box [.int .i64 s] rfl rfl) rfl ?_
  rintro _ _ ⟨g1, rfl, rfl⟩
  refine O.p (Pu.assign rfl) rfl ?_
  refine O.nil ?_
  refine J.seq ?_
  refine J.region ?_
  refine O.p (Pu.move rfl) rfl ?_
  refine O.p (Pu.makeFunc [.pointer (some ⟨g1, 0, none⟩)] rfl) rfl ?_
  refine O.l (Lo.call [lv, .func (.func 88) #[] #[.pointer (some ⟨g1, 0, none⟩)]] (by exact Try.call87) rfl (trace_some 88 [.pointer (some ⟨g1, 0, none⟩)] (fun e => decide (e.s = s)) [var g1 [.int .i64 s] 3] lv l (by exact (by exact Try.call88)) (fun e => trace_of1 e g1 s) (by omega)) [] [0] (by decide) rfl _ rfl (RoOk.ro 0 rfl [] rfl (RoOk.of 0 rfl same_rd [] (by decide) rfl RoOk.nil))) rfl ?_
  rintro v2 _ ⟨_, rfl, rfl⟩
  refine O.p (Pu.assign rfl) rfl ?_
  refine O.nil ?_
  exact J.ret (Fin.ret (rs := [.tmp 4]) rfl [_] ⟨rfl, trivial⟩ [0] (by decide) [row v2 93 7 ((Mono.of s l).map Ev.cells)] rfl rfl)

set_option maxRecDepth 100000 in
theorem mono_passed (s : Int) (lv : Value) (l : List Ev) (hl : l.length ≤ 100000) : Tri Try.prog 11 #[.int .i64 s, lv] [rd lv 7 (l.map Ev.cells)] [] (fun v L' => v = .tuple #[.int .i64 (Mono.passed s l).1, .int .i64 (Mono.passed s l).2] ∧ L' = []) := by
  have hol := Mono.of_len s l
  refine Tri.enter (args := [.int .i64 s, lv]) (body := _) 33 Try.func11 rfl Try.ntmps11 rfl ?_
  intro w0
  refine J.seq ?_
  refine J.region ?_
  refine O.p (Pu.assign rfl) rfl ?_
  refine O.p (Pu.assign rfl) rfl ?_
  refine O.nil ?_
  refine J.seq ?_
  refine J.region ?_
  refine O.p (Pu.assign rfl) rfl ?_
  refine O.p (Pu.assign rfl) rfl ?_
  refine O.nil ?_
  refine J.seq ?_
  refine J.seq ?_
  refine J.region ?_
  refine O.p (Pu.move rfl) rfl ?_
  refine O.p (Pu.move rfl) rfl ?_
  refine O.l (Lo.call [.int .i64 s, lv] (by exact Try.call50) rfl (trace_of s lv l (by omega)) [] [] (by decide) rfl _ rfl (RoOk.ro 0 rfl [] rfl RoOk.nil)) rfl ?_
  rintro v1 _ ⟨_, rfl, rfl⟩
  refine O.q (Qt.lenM Try.runUnderlying22 rfl (Src.row 0 rfl)) rfl ?_
  refine O.p (Pu.move rfl) rfl ?_
  refine O.nil ?_
  refine J.block ?_
  refine J.loop (X := Nat × Int × Int) (fun ξ => ξ.1 ≤ (Mono.of s l).length ∧ (ξ.2.1, ξ.2.2) = upI Mono.passF (0, 0) (Mono.of s l) ξ.1 ∧ 0 ≤ ξ.2.1 ∧ ξ.2.1 ≤ ξ.1 ∧ 0 ≤ ξ.2.2 ∧ ξ.2.2 ≤ ξ.1) (fun ξ => [(4, .int .i64 0), (5, .int .i64 0), (6, .int .i64 ξ.2.1), (7, .int .i64 ξ.2.2), (12, v1), (13, .int .i64 ((Mono.of s l).length : Int)), (14, .int .i64 (ξ.1 : Int))]) (fun ξ => [row v1 93 7 ((Mono.of s l).map Ev.cells)]) (fun ξ => (Mono.of s l).length - ξ.1) ⟨0, 0, 0⟩ (show 0 ≤ (Mono.of s l).length ∧ (0, 0) = upI Mono.passF (0, 0) (Mono.of s l) 0 ∧ 0 ≤ 0 ∧ 0 ≤ 0 ∧ 0 ≤ 0 ∧ 0 ≤ 0 from ⟨by omega, rfl, by omega, by omega, by omega, by omega⟩) ⟨rfl, rfl, rfl, rfl, rfl, rfl, (congrArg (fun z => some (Value.int .i64 z)) (by omega : (0 : Int) = (0 : Int))), trivial⟩ [0] (by decide) rfl ?_
  rintro ⟨k, y, n⟩ hq2
  obtain ⟨hk, hst, hy0, hy1, hn0, hn1⟩ : k ≤ (Mono.of s l).length ∧ (y, n) = upI Mono.passF (0, 0) (Mono.of s l) k ∧ 0 ≤ y ∧ y ≤ k ∧ 0 ≤ n ∧ n ≤ k := hq2
  show J _ _ [(4, .int .i64 0), (5, .int .i64 0), (6, .int .i64 y), (7, .int .i64 n), (12, v1), (13, .int .i64 ((Mono.of s l).length : Int)), (14, .int .i64 (k : Int))] [row v1 93 7 ((Mono.of s l).map Ev.cells)]
  refine J.seq ?_
  refine J.region ?_
  refine O.p (Pu.lss rfl rfl) rfl ?_
  refine O.nil ?_
  refine J.seq ?_
  refine J.cond rfl (fun h3 => ?_) (fun h3 => ?_)
  ·
    have p4 := of_decide_eq_true h3
    refine J.skip ?_
    refine J.seq ?_
    refine J.block ?_
    refine J.seq ?_
    refine J.region ?_
    obtain ⟨e5, he5⟩ : ∃ e, (Mono.of s l)[k]? = some e := ⟨_, List.getElem?_eq_getElem (by first | omega | (simp only [List.length_append, List.length_cons, List.length_nil, List.length_set]; omega))⟩
    refine O.q (Qt.idxM Try.runUnderlying22 Try.sizeOf93 rfl (Src.row 0 rfl) rfl (by first | omega | (simp only [List.length_append, List.length_cons, List.length_nil, List.length_set]; omega)) (by first | omega | (simp only [List.length_append, List.length_cons, List.length_nil, List.length_set]; omega))) rfl ?_
    refine O.q (Qt.ld rfl (Cel.eltM (Src.row 0 rfl) he5) (o := (voff v1 + k * 7)) (off := 0) (by omega) (Cut.agg [.int .i64 e5.kind, .int .i64 e5.tick, .int .i64 e5.s, .int .i64 e5.id, .int .i64 e5.code, .int .i64 e5.a, .int .i64 e5.b] Try.isAgg93 Try.sizeOf93 rfl rfl)) rfl ?_
    refine O.l (Lo.alloc [.int .i64 0, .int .i64 0, .int .i64 0, .int .i64 0, .int .i64 0, .int .i64 0, .int .i64 0] (by exact Try.zeroValue93) rfl) rfl ?_
    rintro _ _ ⟨g6, rfl, rfl⟩
    refine O.l0 (Lo.store 0 (vs := [.int .i64 e5.kind, .int .i64 e5.tick, .int .i64 e5.s, .int .i64 e5.id, .int .i64 e5.code, .int .i64 e5.a, .int .i64 e5.b]) [.int .i64 e5.kind, .int .i64 e5.tick, .int .i64 e5.s, .int .i64 e5.id, .int .i64 e5.code, .int .i64 e5.a, .int .i64 e5.b] rfl rfl rfl (by exact Try.sizeOf93) rfl rfl rfl rfl rfl) ?_
    rintro _ _ rfl
    refine O.nil ?_
    refine J.block ?_
    refine J.seq ?_
    refine J.region ?_
    refine O.q (Qt.ld rfl (Cel.var 0 rfl) (o := 0) (off := 0) rfl (Cut.agg [.int .i64 e5.kind, .int .i64 e5.tick, .int .i64 e5.s, .int .i64 e5.id, .int .i64 e5.code, .int .i64 e5.a, .int .i64 e5.b] Try.isAgg93 Try.sizeOf93 rfl rfl)) rfl ?_
    refine O.l (Lo.call [.agg #[.int .i64 e5.kind, .int .i64 e5.tick, .int .i64 e5.s, .int .i64 e5.id, .int .i64 e5.code, .int .i64 e5.a, .int .i64 e5.b]] (by exact Try.call51) rfl (mono_decision e5) [] [0, 1] (by decide) rfl _ rfl RoOk.nil) rfl ?_
    rintro _ _ ⟨_, ⟨rfl, rfl⟩, rfl⟩
    refine O.p (Pu.not rfl) rfl ?_
    refine O.p (Pu.assign rfl) rfl ?_
    refine O.nil ?_
    refine J.cond rfl (fun h8 => ?_) (fun h8 => ?_)
    ·
      have h9 : Mono.dec e5 = false := by simpa using h8
      refine J.skip ?_
      refine J.blk ?_
      refine J.blk ?_
      refine J.region ?_
      refine O.p (Pu.add' rfl rfl (by first | omega | (simp only [List.length_append, List.length_cons, List.length_nil, List.length_set]; omega))) rfl ?_
      refine O.p (Pu.move rfl) rfl ?_
      refine O.nil ?_
      exact J.lp ⟨k + 1, y, n⟩ (show (k + 1) ≤ (Mono.of s l).length ∧ (y, n) = upI Mono.passF (0, 0) (Mono.of s l) (k + 1) ∧ 0 ≤ y ∧ y ≤ (k + 1) ∧ 0 ≤ n ∧ n ≤ (k + 1) from ⟨by omega, (by rw [upI_succ (by assumption), ← hst]; simp [Mono.passF, *]), by omega, by omega, by omega, by omega⟩) (show (Mono.of s l).length - (k + 1) < (Mono.of s l).length - k from (by first | omega | (simp only [List.length_append, List.length_cons, List.length_nil, List.length_set]; omega))) ⟨rfl, rfl, rfl, rfl, rfl, rfl, (congrArg (fun z => some (Value.int .i64 z)) (by omega : ((k : Int) + 1 : Int) = ((k + 1) : Int))), trivial⟩ [1] (by decide) rfl
    ·
      have h10 : Mono.dec e5 = true := by simpa using h8
      refine J.seq ?_
      refine J.region ?_
      refine O.p (Pu.fieldAddr (off' := 4) Try.runUnderlying93 rfl Try.sizeOf3 rfl rfl rfl) rfl ?_
      refine O.q (Qt.ld rfl (Cel.var 0 rfl) (o := 0) (off := 4) rfl (Cut.one Try.isAgg3 rfl)) rfl ?_
      refine O.p (Pu.eql rfl rfl) rfl ?_
      refine O.p (Pu.assign rfl) rfl ?_
      refine O.nil ?_
      refine J.cond rfl (fun h11 => ?_) (fun h11 => ?_)
      ·
        have p12 := of_decide_eq_true h11
        refine J.region ?_
        refine O.p (Pu.move rfl) rfl ?_
        refine O.p (Pu.add' rfl rfl (by first | omega | (simp only [List.length_append, List.length_cons, List.length_nil, List.length_set]; omega))) rfl ?_
        refine O.p (Pu.assign rfl) rfl ?_
        refine O.nil ?_
        refine J.blk ?_
        refine J.blk ?_
        refine J.region ?_
        refine O.p (Pu.add' rfl rfl (by first | omega | (simp only [List.length_append, List.length_cons, List.length_nil, List.length_set]; omega))) rfl ?_
        refine O.p (Pu.move rfl) rfl ?_
        refine O.nil ?_
        exact J.lp ⟨k + 1, y + 1, n⟩ (show (k + 1) ≤ (Mono.of s l).length ∧ ((y + 1), n) = upI Mono.passF (0, 0) (Mono.of s l) (k + 1) ∧ 0 ≤ (y + 1) ∧ (y + 1) ≤ (k + 1) ∧ 0 ≤ n ∧ n ≤ (k + 1) from ⟨by omega, (by rw [upI_succ (by assumption), ← hst]; simp [Mono.passF, *]), by omega, by omega, by omega, by omega⟩) (show (Mono.of s l).length - (k + 1) < (Mono.of s l).length - k from (by first | omega | (simp only [List.length_append, List.length_cons, List.length_nil, List.length_set]; omega))) ⟨rfl, rfl, rfl, rfl, rfl, rfl, (congrArg (fun z => some (Value.int .i64 z)) (by omega : ((k : Int) + 1 : Int) = ((k + 1) : Int))), trivial⟩ [1] (by decide) rfl
      ·
        have p13 := of_decide_eq_false h11
        refine J.region ?_
        refine O.p (Pu.move rfl) rfl ?_
        refine O.p (Pu.add' rfl rfl (by first | omega | (simp only [List.length_append, List.length_cons, List.length_nil, List.length_set]; omega))) rfl ?_
        refine O.p (Pu.assign rfl) rfl ?_
        refine O.nil ?_
        refine J.blk ?_
        refine J.blk ?_
        refine J.region ?_
        refine O.p (Pu.add' rfl rfl (by first | omega | (simp only [List.length_append, List.length_cons, List.length_nil, List.length_set]; omega))) rfl ?_
        refine O.p (Pu.move rfl) rfl ?_
        refine O.nil ?_
        exact J.lp ⟨k + 1, y, n + 1⟩ (show (k + 1) ≤ (Mono.of s l).length ∧ (y, (n + 1)) = upI Mono.passF (0, 0) (Mono.of s l) (k + 1) ∧ 0 ≤ y ∧ y ≤ (k + 1) ∧ 0 ≤ (n + 1) ∧ (n + 1) ≤ (k + 1) from ⟨by omega, (by rw [upI_succ (by assumption), ← hst]; simp [Mono.passF, *]), by omega, by omega, by omega, by omega⟩) (show (Mono.of s l).length - (k + 1) < (Mono.of s l).length - k from (by first | omega | (simp only [List.length_append, List.length_cons, List.length_nil, List.length_set]; omega))) ⟨rfl, rfl, rfl, rfl, rfl, rfl, (congrArg (fun z => some (Value.int .i64 z)) (by omega : ((k : Int) + 1 : Int) = ((k + 1) : Int))), trivial⟩ [1] (by decide) rfl
  ·
    have p14 := of_decide_eq_false h3
    refine J.exit _ rfl ?_
    refine J.seq ?_
    refine J.region ?_
    refine O.p (Pu.move rfl) rfl ?_
    refine O.p (Pu.move rfl) rfl ?_
    refine O.p (Pu.assign rfl) rfl ?_
    refine O.p (Pu.assign rfl) rfl ?_
    refine O.nil ?_
    exact J.ret (Fin.ret (rs := [.tmp 4, .tmp 5]) rfl [_, _] ⟨rfl, rfl, trivial⟩ [] (by decide) [] rfl ⟨(by have hk2 : k = (Mono.of s l).length := (by omega); rw [Mono.passed, ← hk2, ← hst]; rfl), rfl⟩)

set_option maxRecDepth 100000 in
theorem mono_least (s : Int) (lv : Value) (l : List Ev) (hl : l.length ≤ 100000) : Tri Try.prog 12 #[.int .i64 s, lv] [rd lv 7 (l.map Ev.cells)] [] (fun v L' => v = .tuple #[.int .i64 (Mono.least s l).1, .bool (Mono.least s l).2] ∧ L' = []) := by
  have hol := Mono.of_len s l
  refine Tri.enter (args := [.int .i64 s, lv]) (body := _) 35 Try.func12 rfl Try.ntmps12 rfl ?_
  intro w0
  refine J.seq ?_
  refine J.region ?_
  refine O.p (Pu.assign rfl) rfl ?_
  refine O.p (Pu.assign rfl) rfl ?_
  refine O.nil ?_
  refine J.seq ?_
  refine J.region ?_
  refine O.p (Pu.assign rfl) rfl ?_
  refine O.p (Pu.assign rfl) rfl ?_
  refine O.nil ?_
  refine J.seq ?_
  refine J.seq ?_
  refine J.region ?_
  refine O.p (Pu.move rfl) rfl ?_
  refine O.p (Pu.move rfl) rfl ?_
  refine O.l (Lo.call [.int .i64 s, lv] (by exact Try.call50) rfl (trace_of s lv l (by omega)) [] [] (by decide) rfl _ rfl (RoOk.ro 0 rfl [] rfl RoOk.nil)) rfl ?_
  rintro v1 _ ⟨_, rfl, rfl⟩
  refine O.q (Qt.lenM Try.runUnderlying22 rfl (Src.row 0 rfl)) rfl ?_
  refine O.p (Pu.move rfl) rfl ?_
  refine O.nil ?_
  refine J.block ?_
  refine J.loop (X := Nat × Int × Bool) (fun ξ => ξ.1 ≤ (Mono.of s l).length ∧ (ξ.2.1, ξ.2.2) = upI Mono.leastF (0, false) (Mono.of s l) ξ.1) (fun ξ => [(4, .int .i64 0), (5, .bool false), (6, .int .i64 ξ.2.1), (7, .bool ξ.2.2), (12, v1), (13, .int .i64 ((Mono.of s l).length : Int)), (14, .int .i64 (ξ.1 : Int))]) (fun ξ => [row v1 93 7 ((Mono.of s l).map Ev.cells)]) (fun ξ => (Mono.of s l).length - ξ.1) ⟨0, 0, false⟩ (show 0 ≤ (Mono.of s l).length ∧ (0, false) = upI Mono.leastF (0, false) (Mono.of s l) 0 from ⟨by omega, rfl⟩) ⟨rfl, rfl, rfl, rfl, rfl, rfl, (congrArg (fun z => some (Value.int .i64 z)) (by omega : (0 : Int) = (0 : Int))), trivial⟩ [0] (by decide) rfl ?_
  rintro ⟨k, y, q⟩ hq2
  obtain ⟨hk, hst⟩ : k ≤ (Mono.of s l).length ∧ (y, q) = upI Mono.leastF (0, false) (Mono.of s l) k := hq2
  show J _ _ [(4, .int .i64 0), (5, .bool false), (6, .int .i64 y), (7, .bool q), (12, v1), (13, .int .i64 ((Mono.of s l).length : Int)), (14, .int .i64 (k : Int))] [row v1 93 7 ((Mono.of s l).map Ev.cells)]
  refine J.seq ?_
  refine J.region ?_
  refine O.p (Pu.lss rfl rfl) rfl ?_
  refine O.nil ?_
  refine J.seq ?_
  refine J.cond rfl (fun h3 => ?_) (fun h3 => ?_)
  ·
    have p4 := of_decide_eq_true h3
    refine J.skip ?_
    refine J.seq ?_
    refine J.block ?_
    refine J.seq ?_
    refine J.region ?_
    obtain ⟨e5, he5⟩ : ∃ e, (Mono.of s l)[k]? = some e := ⟨_, List.getElem?_eq_getElem (by first | omega | (simp only [List.length_append, List.length_cons, List.length_nil, List.length_set]; omega))⟩
    refine O.q (Qt.idxM Try.runUnderlying22 Try.sizeOf93 rfl (Src.row 0 rfl) rfl (by first | omega | (simp only [List.length_append, List.length_cons, List.length_nil, List.length_set]; omega)) (by first | omega | (simp only [List.length_append, List.length_cons, List.length_nil, List.length_set]; omega))) rfl ?_
    refine O.q (Qt.ld rfl (Cel.eltM (Src.row 0 rfl) he5) (o := (voff v1 + k * 7)) (off := 0) (by omega) (Cut.agg [.int .i64 e5.kind, .int .i64 e5.tick, .int .i64 e5.s, .int .i64 e5.id, .int .i64 e5.code, .int .i64 e5.a, .int .i64 e5.b] Try.isAgg93 Try.sizeOf93 rfl rfl)) rfl ?_
    refine O.l (Lo.alloc [.int .i64 0, .int .i64 0, .int .i64 0, .int .i64 0, .int .i64 0, .int .i64 0, .int .i64 0] (by exact Try.zeroValue93) rfl) rfl ?_
    rintro _ _ ⟨g6, rfl, rfl⟩
    refine O.l0 (Lo.store 0 (vs := [.int .i64 e5.kind, .int .i64 e5.tick, .int .i64 e5.s, .int .i64 e5.id, .int .i64 e5.code, .int .i64 e5.a, .int .i64 e5.b]) [.int .i64 e5.kind, .int .i64 e5.tick, .int .i64 e5.s, .int .i64 e5.id, .int .i64 e5.code, .int .i64 e5.a, .int .i64 e5.b] rfl rfl rfl (by exact Try.sizeOf93) rfl rfl rfl rfl rfl) ?_
    rintro _ _ rfl
    refine O.nil ?_
    refine J.seq ?_
    refine J.region ?_
    refine O.q (Qt.ld rfl (Cel.var 0 rfl) (o := 0) (off := 0) rfl (Cut.agg [.int .i64 e5.kind, .int .i64 e5.tick, .int .i64 e5.s, .int .i64 e5.id, .int .i64 e5.code, .int .i64 e5.a, .int .i64 e5.b] Try.isAgg93 Try.sizeOf93 rfl rfl)) rfl ?_
    refine O.l (Lo.call [.agg #[.int .i64 e5.kind, .int .i64 e5.tick, .int .i64 e5.s, .int .i64 e5.id, .int .i64 e5.code, .int .i64 e5.a, .int .i64 e5.b]] (by exact Try.call51) rfl (mono_decision e5) [] [0, 1] (by decide) rfl _ rfl RoOk.nil) rfl ?_
    rintro _ _ ⟨_, ⟨rfl, rfl⟩, rfl⟩
    refine O.p (Pu.move rfl) rfl ?_
    refine by_bool (Mono.dec e5) (fun h8 => ?_) (fun h8 => ?_)
    ·
      refine O.gq (t := 20) rfl rfl h8 rfl (Pu.qt (Pu.move rfl)) rfl ?_
      refine O.gq (t := 20) rfl rfl h8 rfl (Pu.qt (Pu.not rfl)) rfl ?_
      refine O.gq (t := 20) rfl rfl h8 rfl (Pu.qt (Pu.move rfl)) rfl ?_
      refine by_bool (!q) (fun h9 => ?_) (fun h9 => ?_)
      ·
        have h10 : q = false := by simpa using h9
        refine O.gskip (t := 23) rfl rfl (no_bool (by rw [h9]; decide)) rfl rfl ?_
        refine O.gskip (t := 23) rfl rfl (no_bool (by rw [h9]; decide)) rfl rfl ?_
        refine O.gskip (t := 23) rfl rfl (no_bool (by rw [h9]; decide)) rfl rfl ?_
        refine O.gskip (t := 23) rfl rfl (no_bool (by rw [h9]; decide)) rfl rfl ?_
        refine O.gq (t := 20) rfl rfl h8 rfl (Pu.qt (Pu.pickT rfl h9 rfl)) rfl ?_
        refine O.p (Pu.pickT rfl h8 rfl) rfl ?_
        refine O.nil ?_
        refine J.condT rfl rfl ?_
        refine J.region ?_
        refine O.p (Pu.fieldAddr (off' := 6) Try.runUnderlying93 rfl Try.sizeOf3 rfl rfl rfl) rfl ?_
        refine O.q (Qt.ld rfl (Cel.var 0 rfl) (o := 0) (off := 6) rfl (Cut.one Try.isAgg3 rfl)) rfl ?_
        refine O.p (Pu.assign rfl) rfl ?_
        refine O.p (Pu.assign rfl) rfl ?_
        refine O.nil ?_
        refine J.blk ?_
        refine J.region ?_
        refine O.p (Pu.add' rfl rfl (by first | omega | (simp only [List.length_append, List.length_cons, List.length_nil, List.length_set]; omega))) rfl ?_
        refine O.p (Pu.move rfl) rfl ?_
        refine O.nil ?_
        exact J.lp ⟨k + 1, e5.b, true⟩ (show (k + 1) ≤ (Mono.of s l).length ∧ (e5.b, true) = upI Mono.leastF (0, false) (Mono.of s l) (k + 1) from ⟨by omega, (by rw [upI_succ (by assumption), ← hst]; simp [Mono.leastF, *])⟩) (show (Mono.of s l).length - (k + 1) < (Mono.of s l).length - k from (by first | omega | (simp only [List.length_append, List.length_cons, List.length_nil, List.length_set]; omega))) ⟨rfl, rfl, rfl, rfl, rfl, rfl, (congrArg (fun z => some (Value.int .i64 z)) (by omega : ((k : Int) + 1 : Int) = ((k + 1) : Int))), trivial⟩ [1] (by decide) rfl
      ·
        have h11 : q = true := by simpa using h9
        refine O.gq (t := 23) rfl rfl h9 rfl (Pu.qt (Pu.fieldAddr (off' := 6) Try.runUnderlying93 rfl Try.sizeOf3 rfl rfl rfl)) rfl ?_
        refine O.gq (t := 23) rfl rfl h9 rfl (Qt.ld rfl (Cel.var 0 rfl) (o := 0) (off := 6) rfl (Cut.one Try.isAgg3 rfl)) rfl ?_
        refine O.gq (t := 23) rfl rfl h9 rfl (Pu.qt (Pu.move rfl)) rfl ?_
        refine O.gq (t := 23) rfl rfl h9 rfl (Pu.qt (Pu.lss rfl rfl)) rfl ?_
        refine O.gq (t := 20) rfl rfl h8 rfl (Pu.qt (Pu.pickF rfl h9 rfl)) rfl ?_
        refine O.p (Pu.pickT rfl h8 rfl) rfl ?_
        refine O.nil ?_
        refine J.cond rfl (fun h12 => ?_) (fun h12 => ?_)
        ·
          have p13 := of_decide_eq_true h12
          refine J.region ?_
          refine O.p (Pu.fieldAddr (off' := 6) Try.runUnderlying93 rfl Try.sizeOf3 rfl rfl rfl) rfl ?_
          refine O.q (Qt.ld rfl (Cel.var 0 rfl) (o := 0) (off := 6) rfl (Cut.one Try.isAgg3 rfl)) rfl ?_
          refine O.p (Pu.assign rfl) rfl ?_
          refine O.p (Pu.assign rfl) rfl ?_
          refine O.nil ?_
          refine J.blk ?_
          refine J.region ?_
          refine O.p (Pu.add' rfl rfl (by first | omega | (simp only [List.length_append, List.length_cons, List.length_nil, List.length_set]; omega))) rfl ?_
          refine O.p (Pu.move rfl) rfl ?_
          refine O.nil ?_
          exact J.lp ⟨k + 1, e5.b, true⟩ (show (k + 1) ≤ (Mono.of s l).length ∧ (e5.b, true) = upI Mono.leastF (0, false) (Mono.of s l) (k + 1) from ⟨by omega, (by rw [upI_succ (by assumption), ← hst]; simp [Mono.leastF, *])⟩) (show (Mono.of s l).length - (k + 1) < (Mono.of s l).length - k from (by first | omega | (simp only [List.length_append, List.length_cons, List.length_nil, List.length_set]; omega))) ⟨rfl, rfl, rfl, rfl, rfl, rfl, (congrArg (fun z => some (Value.int .i64 z)) (by omega : ((k : Int) + 1 : Int) = ((k + 1) : Int))), trivial⟩ [1] (by decide) rfl
        ·
          have p14 := of_decide_eq_false h12
          refine J.skip ?_
          refine J.blk ?_
          refine J.region ?_
          refine O.p (Pu.add' rfl rfl (by first | omega | (simp only [List.length_append, List.length_cons, List.length_nil, List.length_set]; omega))) rfl ?_
          refine O.p (Pu.move rfl) rfl ?_
          refine O.nil ?_
          exact J.lp ⟨k + 1, y, q⟩ (show (k + 1) ≤ (Mono.of s l).length ∧ (y, q) = upI Mono.leastF (0, false) (Mono.of s l) (k + 1) from ⟨by omega, (by rw [upI_succ (by assumption), ← hst]; simp [Mono.leastF, *])⟩) (show (Mono.of s l).length - (k + 1) < (Mono.of s l).length - k from (by first | omega | (simp only [List.length_append, List.length_cons, List.length_nil, List.length_set]; omega))) ⟨rfl, rfl, rfl, rfl, rfl, rfl, (congrArg (fun z => some (Value.int .i64 z)) (by omega : ((k : Int) + 1 : Int) = ((k + 1) : Int))), trivial⟩ [1] (by decide) rfl
    ·
      refine O.gskip (t := 20) rfl rfl (no_bool (by rw [h8]; decide)) rfl rfl ?_
      refine O.gskip (t := 20) rfl rfl (no_bool (by rw [h8]; decide)) rfl rfl ?_
      refine O.gskip (t := 20) rfl rfl (no_bool (by rw [h8]; decide)) rfl rfl ?_
      refine O.gskip (t := 23) rfl rfl (no_undef _) rfl rfl ?_
      refine O.gskip (t := 23) rfl rfl (no_undef _) rfl rfl ?_
      refine O.gskip (t := 23) rfl rfl (no_undef _) rfl rfl ?_
      refine O.gskip (t := 23) rfl rfl (no_undef _) rfl rfl ?_
      refine O.gskip (t := 20) rfl rfl (no_bool (by rw [h8]; decide)) rfl rfl ?_
      refine O.p (Pu.pickF rfl h8 rfl) rfl ?_
      refine O.nil ?_
      refine J.condF rfl rfl ?_
      refine J.skip ?_
      refine J.blk ?_
      refine J.region ?_
      refine O.p (Pu.add' rfl rfl (by first | omega | (simp only [List.length_append, List.length_cons, List.length_nil, List.length_set]; omega))) rfl ?_
      refine O.p (Pu.move rfl) rfl ?_
      refine O.nil ?_
      exact J.lp ⟨k + 1, y, q⟩ (show (k + 1) ≤ (Mono.of s l).length ∧ (y, q) = upI Mono.leastF (0, false) (Mono.of s l) (k + 1) from ⟨by omega, (by rw [upI_succ (by assumption), ← hst]; simp [Mono.leastF, *])⟩) (show (Mono.of s l).length - (k + 1) < (Mono.of s l).length - k from (by first | omega | (simp only [List.length_append, List.length_cons, List.length_nil, List.length_set]; omega))) ⟨rfl, rfl, rfl, rfl, rfl, rfl, (congrArg (fun z => some (Value.int .i64 z)) (by omega : ((k : Int) + 1 : Int) = ((k + 1) : Int))), trivial⟩ [1] (by decide) rfl
  ·
    have p15 := of_decide_eq_false h3
    refine J.exit _ rfl ?_
    refine J.seq ?_
    refine J.region ?_
    refine O.p (Pu.move rfl) rfl ?_
    refine O.p (Pu.move rfl) rfl ?_
    refine O.p (Pu.assign rfl) rfl ?_
    refine O.p (Pu.assign rfl) rfl ?_
    refine O.nil ?_
    exact J.ret (Fin.ret (rs := [.tmp 4, .tmp 5]) rfl [_, _] ⟨rfl, rfl, trivial⟩ [] (by decide) [] rfl ⟨(by have hk2 : k = (Mono.of s l).length := (by omega); rw [Mono.least, ← hk2, ← hst]; rfl), rfl⟩)

end Go.Proofs.Ytghhjhjpccipaaa
