/-
  Walks, printed by a program of mine (lk.py): each function meets its contract.
-/
import Derived.KernelRfl
import Derived.Test.YtnfkoohgdcocdaaDoorTX2
import Derived.Test.YtnfkoohgdcocdaaDoorTX4
namespace Go.Proofs.YtnfkoohgdcocdaaDoor
open Go Go.LK
set_option linter.unusedSimpArgs false

set_option maxRecDepth 100000 in
theorem tc_ParseAll (s : List UInt8) (hs : s.length ≤ 70000) : Tri Tryd.prog 21 #[str s] [libW, var 0 (Tc.kinds.map vS) 111] [] (fun v L' => ∃ V', v = .tuple #[V', .int .i64 (Tc.parseAll s).2.1, .int .i64 (Tc.parseAll s).2.2] ∧ L' = [row V' 23 7 ((Tc.parseAll s).1.map Ev.cells)]) := by
  have hl_ := Wd.lines_len s
  refine Tri.enter (args := [str s]) (body := _) 37 Tryd.func21 rfl Tryd.ntmps21 rfl ?_
  intro w0
  refine J.seq ?_
  refine J.region ?_
  refine O.p (Pu.assign rfl) rfl ?_
  refine O.p (Pu.assign rfl) rfl ?_
  refine O.p (Pu.assign rfl) rfl ?_
  refine O.nil ?_
  refine J.seq ?_
  refine J.region ?_
  refine O.p (Pu.assign rfl) rfl ?_
  refine O.nil ?_
  refine J.seq ?_
  refine J.seq ?_
  refine J.region ?_
  refine O.p (Pu.move rfl) rfl ?_
  refine O.l (Lo.call [str s] (by exact Tryd.call87) rfl (w_Lines s (by first | omega | (have h_ := Wd.lines_part s _ (List.mem_of_getElem? (by assumption)); omega) | (simp only [List.length_append, List.length_cons, List.length_nil]; omega))) [] [] (by decide) rfl [] rfl RoOk.nil) rfl ?_
  rintro v1 _ ⟨_, rfl, rfl⟩
  refine O.q (Qt.lenM Tryd.runUnderlying32 rfl (Src.row 0 rfl)) rfl ?_
  refine O.p (Pu.move rfl) rfl ?_
  refine O.nil ?_
  refine J.block ?_
  refine J.nilRow 23 7 ?_
  refine J.loop (X := Nat × Value × List Ev) (fun ξ => ξ.1 ≤ (Wd.linesL s).length ∧ Tc.PA (Wd.linesL s) ξ.1 ξ.2.2 (Tc.parseAll s)) (fun ξ => [(5, ξ.2.1), (11, v1), (12, .int .i64 ((Wd.linesL s).length : Int)), (13, .int .i64 (ξ.1 : Int))]) (fun ξ => [row v1 9 1 ((Wd.linesL s).map encS), row ξ.2.1 23 7 (ξ.2.2.map Ev.cells)]) (fun ξ => (Wd.linesL s).length - ξ.1) ⟨0, Value.slice none 0 0, []⟩ (show 0 ≤ (Wd.linesL s).length ∧ Tc.PA (Wd.linesL s) 0 ([]) (Tc.parseAll s) from ⟨by omega, Tc.pa_zero⟩) ⟨rfl, rfl, rfl, (congrArg (fun z => some (Value.int .i64 z)) (by first | rfl | omega : (0 : Int) = (0 : Int))), trivial⟩ [1, 0] (by decide) rfl ?_
  rintro ⟨k, V, out⟩ hq2
  obtain ⟨hk, hp⟩ : k ≤ (Wd.linesL s).length ∧ Tc.PA (Wd.linesL s) k out (Tc.parseAll s) := hq2
  show J _ _ [(5, V), (11, v1), (12, .int .i64 ((Wd.linesL s).length : Int)), (13, .int .i64 (k : Int))] [row v1 9 1 ((Wd.linesL s).map encS), row V 23 7 (out.map Ev.cells)]
  have ho_ := hp.2
  refine J.seq ?_
  refine J.region ?_
  refine O.p (Pu.lss rfl rfl) rfl ?_
  refine O.nil ?_
  refine J.seq ?_
  refine J.cond rfl (fun h3 => ?_) (fun h3 => ?_)
  ·
    have p4 := of_decide_eq_true h3
    refine J.skip ?_
    refine J.seq ?_
    refine J.block ?_
    refine J.seq ?_
    refine J.region ?_
    refine O.p (Pu.move rfl) rfl ?_
    obtain ⟨e5, he5⟩ : ∃ x_, (Wd.linesL s)[k]? = some x_ := ⟨_, List.getElem?_eq_getElem (by first | omega | (have h_ := Wd.lines_part s _ (List.mem_of_getElem? (by assumption)); omega) | (simp only [List.length_append, List.length_cons, List.length_nil]; omega))⟩
    refine O.q (Qt.idxM Tryd.runUnderlying32 Tryd.sizeOf9 rfl (Src.row 0 rfl) rfl (by first | omega | (have h_ := Wd.lines_part s _ (List.mem_of_getElem? (by assumption)); omega) | (simp only [List.length_append, List.length_cons, List.length_nil]; omega)) (by first | omega | (have h_ := Wd.lines_part s _ (List.mem_of_getElem? (by assumption)); omega) | (simp only [List.length_append, List.length_cons, List.length_nil]; omega))) rfl ?_
    refine O.q (Qt.ld rfl (Cel.eltM (Src.row 0 rfl) he5) (o := (voff v1 + k * 1)) (off := 0) (by omega) (Cut.one Tryd.isAgg9 rfl)) rfl ?_
    refine O.p (Pu.assign rfl) rfl ?_
    refine O.p (Pu.assign rfl) rfl ?_
    refine O.nil ?_
    refine J.seq ?_
    refine J.seq ?_
    refine J.region ?_
    refine O.p (Pu.move rfl) rfl ?_
    refine O.l (Lo.call [str e5] (by exact Tryd.call78) rfl (w_Words e5 (by first | omega | (have h_ := Wd.lines_part s _ (List.mem_of_getElem? (by assumption)); omega))) [] [0, 1] (by decide) rfl [row v1 9 1 ((Wd.linesL s).map encS), row V 23 7 (out.map Ev.cells)] rfl RoOk.nil) rfl ?_
    rintro v6 _ ⟨_, rfl, rfl⟩
    refine O.q (Qt.lenM Tryd.runUnderlying32 rfl (Src.row 0 rfl)) rfl ?_
    refine O.p (Pu.eql rfl rfl) rfl ?_
    refine O.nil ?_
    refine J.cond rfl (fun h7 => ?_) (fun h7 => ?_)
    ·
      have p8 := of_decide_eq_true h7
      refine J.exit _ rfl ?_
      refine J.region ?_
      refine O.p (Pu.add' rfl rfl (by first | omega | (simp only [List.length_append, List.length_cons, List.length_nil, List.length_set]; omega))) rfl ?_
      refine O.p (Pu.move rfl) rfl ?_
      refine O.nil ?_
      exact J.lp ⟨k + 1, V, out⟩ (show (k + 1) ≤ (Wd.linesL s).length ∧ Tc.PA (Wd.linesL s) (k + 1) out (Tc.parseAll s) from ⟨by omega, (by first | exact Tc.pa_skip hp (by assumption) (by omega) | exact Tc.pa_add hp (by assumption) (by omega) (by omega))⟩) (show (Wd.linesL s).length - (k + 1) < (Wd.linesL s).length - k from (by first | omega | (have h_ := Wd.lines_part s _ (List.mem_of_getElem? (by assumption)); omega) | (simp only [List.length_append, List.length_cons, List.length_nil]; omega))) ⟨rfl, rfl, rfl, (congrArg (fun z => some (Value.int .i64 z)) (by first | rfl | omega : ((k : Int) + 1 : Int) = ((k + 1) : Int))), trivial⟩ [1, 2] (by decide) rfl
    ·
      have p9 := of_decide_eq_false h7
      refine J.skip ?_
      refine J.seq ?_
      refine J.region ?_
      refine O.p (Pu.move rfl) rfl ?_
      refine O.l (Lo.call [str e5] (by exact Tryd.call16) rfl (tc_Parse e5 (by (have h_ := Wd.lines_part s _ (List.mem_of_getElem? (by assumption)); omega))) [] [0, 1, 2] (by decide) rfl [row v6 9 1 ((Wd.wordsL e5).map encS), row v1 9 1 ((Wd.linesL s).map encS), row V 23 7 (out.map Ev.cells)] rfl (RoOk.ro 0 rfl [] rfl (RoOk.ro 1 rfl [] rfl RoOk.nil))) rfl ?_
      rintro _ _ ⟨_, ⟨rfl, rfl⟩, rfl⟩
      refine O.p (Pu.move rfl) rfl ?_
      refine O.p (Pu.extract rfl rfl) rfl ?_
      refine O.p (Pu.extract rfl rfl) rfl ?_
      refine O.l (Lo.alloc [.int .i64 0, .int .i64 0, .int .i64 0, .int .i64 0, .int .i64 0, .int .i64 0, .int .i64 0] (by exact Tryd.zeroValue23) rfl) rfl ?_
      rintro _ _ ⟨g11, rfl, rfl⟩
      refine O.l0 (Lo.store 0 (vs := [.int .i64 (((Tc.parse e5).1).kind), .int .i64 (((Tc.parse e5).1).tick), .int .i64 (((Tc.parse e5).1).s), .int .i64 (((Tc.parse e5).1).id), .int .i64 (((Tc.parse e5).1).code), .int .i64 (((Tc.parse e5).1).a), .int .i64 (((Tc.parse e5).1).b)]) [.int .i64 (((Tc.parse e5).1).kind), .int .i64 (((Tc.parse e5).1).tick), .int .i64 (((Tc.parse e5).1).s), .int .i64 (((Tc.parse e5).1).id), .int .i64 (((Tc.parse e5).1).code), .int .i64 (((Tc.parse e5).1).a), .int .i64 (((Tc.parse e5).1).b)] rfl rfl rfl (by exact Tryd.sizeOf23) rfl rfl rfl rfl rfl) ?_
      rintro _ _ rfl
      refine O.p (Pu.assign rfl) rfl ?_
      refine O.nil ?_
      refine J.seq ?_
      refine J.seq ?_
      refine J.region ?_
      refine O.p (Pu.move rfl) rfl ?_
      refine O.p (Pu.neq rfl rfl) rfl ?_
      refine O.nil ?_
      refine J.cond rfl (fun h12 => ?_) (fun h12 => ?_)
      ·
        have p13 := of_decide_eq_true h12
        refine J.seq ?_
        refine J.region ?_
        refine O.p (Pu.move rfl) rfl ?_
        refine O.p (Pu.move rfl) rfl ?_
        refine O.p (Pu.assign rfl) rfl ?_
        refine O.p (Pu.assign rfl) rfl ?_
        refine O.p (Pu.assign rfl) rfl ?_
        refine O.nil ?_
        refine J.nilRow 23 7 ?_
        exact J.ret (Fin.ret (rs := [.tmp 2, .tmp 3, .tmp 4]) rfl [_, _, _] ⟨rfl, rfl, rfl, trivial⟩ [0] (by decide) [row (Value.slice none 0 0) 23 7 (([] : List Ev).map Ev.cells)] rfl ⟨Value.slice none 0 0, (by first | (rw [Tc.pa_bad hp (by assumption) (by omega) (by assumption)]; done) | (rw [Tc.pa_bad hp (by assumption) (by omega) (by assumption)]; rfl)), (by first | (rw [Tc.pa_bad hp (by assumption) (by omega) (by assumption)]; done) | (rw [Tc.pa_bad hp (by assumption) (by omega) (by assumption)]; rfl))⟩)
      ·
        have p14 := of_decide_eq_false h12
        refine J.skip ?_
        refine J.region ?_
        refine O.p (Pu.move rfl) rfl ?_
        refine O.q (Qt.ld rfl (Cel.var 0 rfl) (o := 0) (off := 0) rfl (Cut.agg [.int .i64 (((Tc.parse e5).1).kind), .int .i64 (((Tc.parse e5).1).tick), .int .i64 (((Tc.parse e5).1).s), .int .i64 (((Tc.parse e5).1).id), .int .i64 (((Tc.parse e5).1).code), .int .i64 (((Tc.parse e5).1).a), .int .i64 (((Tc.parse e5).1).b)] Tryd.isAgg23 Tryd.sizeOf23 rfl rfl)) rfl ?_
        refine O.l (Lo.buildM (s := 7) Ev.cells [(Tc.parse e5).1] [(0, .agg #[.int .i64 (((Tc.parse e5).1).kind), .int .i64 (((Tc.parse e5).1).tick), .int .i64 (((Tc.parse e5).1).s), .int .i64 (((Tc.parse e5).1).id), .int .i64 (((Tc.parse e5).1).code), .int .i64 (((Tc.parse e5).1).a), .int .i64 (((Tc.parse e5).1).b)])] (by exact Tryd.runUnderlying35) (by exact Tryd.sizeOf23) (by exact Tryd.zeroValue23) rfl rfl rfl (by kernel_rfl) rfl rfl) rfl ?_
        rintro V15 _ rfl
        refine O.l (Lo.appendM (s := 7) 4 (by exact Tryd.underlying35) (by exact (info23).1) (by exact (info23).2.1) (by exact (info23).2.2.1) (by exact (info23).2.2.2) rfl rfl rfl rfl rfl (Src.row 0 rfl) Ev.one (by first | omega | (have h_ := Wd.lines_part s _ (List.mem_of_getElem? (by assumption)); omega) | (simp only [List.length_append, List.length_cons, List.length_nil]; omega)) (by first | omega | (have h_ := Wd.lines_part s _ (List.mem_of_getElem? (by assumption)); omega) | (simp only [List.length_append, List.length_cons, List.length_nil]; omega))) rfl ?_
        rintro V16 _ rfl
        refine O.p (Pu.assign rfl) rfl ?_
        refine O.nil ?_
        refine J.blk ?_
        refine J.region ?_
        refine O.p (Pu.add' rfl rfl (by first | omega | (simp only [List.length_append, List.length_cons, List.length_nil, List.length_set]; omega))) rfl ?_
        refine O.p (Pu.move rfl) rfl ?_
        refine O.nil ?_
        exact J.lp ⟨k + 1, V16, out ++ ([(Tc.parse e5).1])⟩ (show (k + 1) ≤ (Wd.linesL s).length ∧ Tc.PA (Wd.linesL s) (k + 1) (out ++ ([(Tc.parse e5).1])) (Tc.parseAll s) from ⟨by omega, (by first | exact Tc.pa_skip hp (by assumption) (by omega) | exact Tc.pa_add hp (by assumption) (by omega) (by omega))⟩) (show (Wd.linesL s).length - (k + 1) < (Wd.linesL s).length - k from (by first | omega | (have h_ := Wd.lines_part s _ (List.mem_of_getElem? (by assumption)); omega) | (simp only [List.length_append, List.length_cons, List.length_nil]; omega))) ⟨rfl, rfl, rfl, (congrArg (fun z => some (Value.int .i64 z)) (by first | rfl | omega : ((k : Int) + 1 : Int) = ((k + 1) : Int))), trivial⟩ [3, 4] (by decide) rfl
  ·
    have p17 := of_decide_eq_false h3
    refine J.exit _ rfl ?_
    refine J.seq ?_
    refine J.region ?_
    refine O.p (Pu.move rfl) rfl ?_
    refine O.p (Pu.assign rfl) rfl ?_
    refine O.p (Pu.assign rfl) rfl ?_
    refine O.p (Pu.assign rfl) rfl ?_
    refine O.nil ?_
    exact J.ret (Fin.ret (rs := [.tmp 2, .tmp 3, .tmp 4]) rfl [_, _, _] ⟨rfl, rfl, rfl, trivial⟩ [1] (by decide) [row V 23 7 (out.map Ev.cells)] rfl ⟨V, (by first | (rw [Tc.pa_end hp (by omega)]; done) | (rw [Tc.pa_end hp (by omega)]; rfl)), (by first | (rw [Tc.pa_end hp (by omega)]; done) | (rw [Tc.pa_end hp (by omega)]; rfl))⟩)

set_option maxRecDepth 100000 in
theorem r39_ParseAll (s : List UInt8) (hs : s.length ≤ 70000) : Tri Tryd.prog 27 #[str s] [] [] (fun v L' => ∃ V', v = .tuple #[V', .int .i64 (Tc.parseAll s).2.1, .int .i64 (Tc.parseAll s).2.2] ∧ L' = [row V' 23 7 ((Tc.parseAll s).1.map Ev.cells)]) := by
  have hl_ := Wd.lines_len s
  refine Tri.enter (args := [str s]) (body := _) 42 Tryd.func27 rfl Tryd.ntmps27 rfl ?_
  intro w0
  refine J.seq ?_
  refine J.region ?_
  refine O.p (Pu.assign rfl) rfl ?_
  refine O.p (Pu.assign rfl) rfl ?_
  refine O.p (Pu.assign rfl) rfl ?_
  refine O.nil ?_
  refine J.seq ?_
  refine J.region ?_
  refine O.p (Pu.assign rfl) rfl ?_
  refine O.nil ?_
  refine J.seq ?_
  refine J.region ?_
  refine O.p (Pu.move rfl) rfl ?_
  refine O.l (Lo.call [str s] (by exact Tryd.call90) rfl (r06_Lines s (by first | omega | (have h_ := Wd.lines_part s _ (List.mem_of_getElem? (by assumption)); omega) | (simp only [List.length_append, List.length_cons, List.length_nil]; omega))) [] [] (by decide) rfl [] rfl RoOk.nil) rfl ?_
  rintro v1 _ ⟨_, rfl, rfl⟩
  refine O.p (Pu.assign rfl) rfl ?_
  refine O.nil ?_
  refine J.seq ?_
  refine J.seq ?_
  refine J.region ?_
  refine O.p (Pu.assign rfl) rfl ?_
  refine O.nil ?_
  refine J.block ?_
  refine J.nilRow 23 7 ?_
  refine J.loop (X := Nat × Value × List Ev) (fun ξ => ξ.1 ≤ (Wd.linesL s).length ∧ Tc.PA (Wd.linesL s) ξ.1 ξ.2.2 (Tc.parseAll s)) (fun ξ => [(5, ξ.2.1), (6, v1), (7, .int .i64 (ξ.1 : Int))]) (fun ξ => [row v1 9 1 ((Wd.linesL s).map encS), row ξ.2.1 23 7 (ξ.2.2.map Ev.cells)]) (fun ξ => (Wd.linesL s).length - ξ.1) ⟨0, Value.slice none 0 0, []⟩ (show 0 ≤ (Wd.linesL s).length ∧ Tc.PA (Wd.linesL s) 0 ([]) (Tc.parseAll s) from ⟨by omega, Tc.pa_zero⟩) ⟨rfl, rfl, (congrArg (fun z => some (Value.int .i64 z)) (by first | rfl | omega : (0 : Int) = (0 : Int))), trivial⟩ [1, 0] (by decide) rfl ?_
  rintro ⟨k, V, out⟩ hq2
  obtain ⟨hk, hp⟩ : k ≤ (Wd.linesL s).length ∧ Tc.PA (Wd.linesL s) k out (Tc.parseAll s) := hq2
  show J _ _ [(5, V), (6, v1), (7, .int .i64 (k : Int))] [row v1 9 1 ((Wd.linesL s).map encS), row V 23 7 (out.map Ev.cells)]
  have ho_ := hp.2
  refine J.seq ?_
  refine J.seq ?_
  refine J.region ?_
  refine O.p (Pu.move rfl) rfl ?_
  refine O.p (Pu.move rfl) rfl ?_
  refine O.q (Qt.lenM Tryd.runUnderlying32 rfl (Src.row 0 rfl)) rfl ?_
  refine O.p (Pu.lss rfl rfl) rfl ?_
  refine O.nil ?_
  refine J.cond rfl (fun h3 => ?_) (fun h3 => ?_)
  ·
    have p4 := of_decide_eq_true h3
    refine J.skip ?_
    refine J.seq ?_
    refine J.block ?_
    refine J.seq ?_
    refine J.seq ?_
    refine J.region ?_
    refine O.p (Pu.move rfl) rfl ?_
    refine O.p (Pu.move rfl) rfl ?_
    obtain ⟨e5, he5⟩ : ∃ x_, (Wd.linesL s)[k]? = some x_ := ⟨_, List.getElem?_eq_getElem (by first | omega | (have h_ := Wd.lines_part s _ (List.mem_of_getElem? (by assumption)); omega) | (simp only [List.length_append, List.length_cons, List.length_nil]; omega))⟩
    refine O.q (Qt.idxM Tryd.runUnderlying32 Tryd.sizeOf9 rfl (Src.row 0 rfl) rfl (by first | omega | (have h_ := Wd.lines_part s _ (List.mem_of_getElem? (by assumption)); omega) | (simp only [List.length_append, List.length_cons, List.length_nil]; omega)) (by first | omega | (have h_ := Wd.lines_part s _ (List.mem_of_getElem? (by assumption)); omega) | (simp only [List.length_append, List.length_cons, List.length_nil]; omega))) rfl ?_
    refine O.q (Qt.ld rfl (Cel.eltM (Src.row 0 rfl) he5) (o := (voff v1 + k * 1)) (off := 0) (by omega) (Cut.one Tryd.isAgg9 rfl)) rfl ?_
    refine O.l (Lo.call [str e5] (by exact Tryd.call83) rfl (r06_Words e5 (by first | omega | (have h_ := Wd.lines_part s _ (List.mem_of_getElem? (by assumption)); omega))) [] [0, 1] (by decide) rfl [row v1 9 1 ((Wd.linesL s).map encS), row V 23 7 (out.map Ev.cells)] rfl RoOk.nil) rfl ?_
    rintro v6 _ ⟨_, rfl, rfl⟩
    refine O.q (Qt.lenM Tryd.runUnderlying32 rfl (Src.row 0 rfl)) rfl ?_
    refine O.p (Pu.eql rfl rfl) rfl ?_
    refine O.nil ?_
    refine J.cond rfl (fun h7 => ?_) (fun h7 => ?_)
    ·
      have p8 := of_decide_eq_true h7
      refine J.exit _ rfl ?_
      refine J.region ?_
      refine O.p (Pu.move rfl) rfl ?_
      refine O.p (Pu.add' rfl rfl (by first | omega | (simp only [List.length_append, List.length_cons, List.length_nil, List.length_set]; omega))) rfl ?_
      refine O.p (Pu.assign rfl) rfl ?_
      refine O.nil ?_
      exact J.lp ⟨k + 1, V, out⟩ (show (k + 1) ≤ (Wd.linesL s).length ∧ Tc.PA (Wd.linesL s) (k + 1) out (Tc.parseAll s) from ⟨by omega, (by first | exact Tc.pa_skip hp (by assumption) (by omega) | exact Tc.pa_add hp (by assumption) (by omega) (by omega))⟩) (show (Wd.linesL s).length - (k + 1) < (Wd.linesL s).length - k from (by first | omega | (have h_ := Wd.lines_part s _ (List.mem_of_getElem? (by assumption)); omega) | (simp only [List.length_append, List.length_cons, List.length_nil]; omega))) ⟨rfl, rfl, (congrArg (fun z => some (Value.int .i64 z)) (by first | rfl | omega : ((k : Int) + 1 : Int) = ((k + 1) : Int))), trivial⟩ [1, 2] (by decide) rfl
    ·
      have p9 := of_decide_eq_false h7
      refine J.skip ?_
      refine J.seq ?_
      refine J.region ?_
      refine O.p (Pu.move rfl) rfl ?_
      refine O.p (Pu.move rfl) rfl ?_
      refine O.q (Qt.idxM Tryd.runUnderlying32 Tryd.sizeOf9 rfl (Src.row 1 rfl) rfl (by first | omega | (have h_ := Wd.lines_part s _ (List.mem_of_getElem? (by assumption)); omega) | (simp only [List.length_append, List.length_cons, List.length_nil]; omega)) (by first | omega | (have h_ := Wd.lines_part s _ (List.mem_of_getElem? (by assumption)); omega) | (simp only [List.length_append, List.length_cons, List.length_nil]; omega))) rfl ?_
      refine O.q (Qt.ld rfl (Cel.eltM (Src.row 1 rfl) he5) (o := (voff v1 + k * 1)) (off := 0) (by omega) (Cut.one Tryd.isAgg9 rfl)) rfl ?_
      refine O.l (Lo.call [str e5] (by exact Tryd.call17) rfl (r39_Parse e5 (by (have h_ := Wd.lines_part s _ (List.mem_of_getElem? (by assumption)); omega))) [] [0, 1, 2] (by decide) rfl [row v6 9 1 ((Wd.wordsL e5).map encS), row v1 9 1 ((Wd.linesL s).map encS), row V 23 7 (out.map Ev.cells)] rfl RoOk.nil) rfl ?_
      rintro _ _ ⟨_, ⟨rfl, rfl⟩, rfl⟩
      refine O.p (Pu.move rfl) rfl ?_
      refine O.p (Pu.extract rfl rfl) rfl ?_
      refine O.p (Pu.extract rfl rfl) rfl ?_
      refine O.l (Lo.alloc [.int .i64 0, .int .i64 0, .int .i64 0, .int .i64 0, .int .i64 0, .int .i64 0, .int .i64 0] (by exact Tryd.zeroValue23) rfl) rfl ?_
      rintro _ _ ⟨g11, rfl, rfl⟩
      refine O.l0 (Lo.store 0 (vs := [.int .i64 (((Tc.parse e5).1).kind), .int .i64 (((Tc.parse e5).1).tick), .int .i64 (((Tc.parse e5).1).s), .int .i64 (((Tc.parse e5).1).id), .int .i64 (((Tc.parse e5).1).code), .int .i64 (((Tc.parse e5).1).a), .int .i64 (((Tc.parse e5).1).b)]) [.int .i64 (((Tc.parse e5).1).kind), .int .i64 (((Tc.parse e5).1).tick), .int .i64 (((Tc.parse e5).1).s), .int .i64 (((Tc.parse e5).1).id), .int .i64 (((Tc.parse e5).1).code), .int .i64 (((Tc.parse e5).1).a), .int .i64 (((Tc.parse e5).1).b)] rfl rfl rfl (by exact Tryd.sizeOf23) rfl rfl rfl rfl rfl) ?_
      rintro _ _ rfl
      refine O.p (Pu.assign rfl) rfl ?_
      refine O.nil ?_
      refine J.seq ?_
      refine J.seq ?_
      refine J.region ?_
      refine O.p (Pu.move rfl) rfl ?_
      refine O.p (Pu.neq rfl rfl) rfl ?_
      refine O.nil ?_
      refine J.cond rfl (fun h12 => ?_) (fun h12 => ?_)
      ·
        have p13 := of_decide_eq_true h12
        refine J.seq ?_
        refine J.region ?_
        refine O.p (Pu.move rfl) rfl ?_
        refine O.p (Pu.move rfl) rfl ?_
        refine O.p (Pu.assign rfl) rfl ?_
        refine O.p (Pu.assign rfl) rfl ?_
        refine O.p (Pu.assign rfl) rfl ?_
        refine O.nil ?_
        refine J.nilRow 23 7 ?_
        exact J.ret (Fin.ret (rs := [.tmp 2, .tmp 3, .tmp 4]) rfl [_, _, _] ⟨rfl, rfl, rfl, trivial⟩ [0] (by decide) [row (Value.slice none 0 0) 23 7 (([] : List Ev).map Ev.cells)] rfl ⟨Value.slice none 0 0, (by first | (rw [Tc.pa_bad hp (by assumption) (by omega) (by assumption)]; done) | (rw [Tc.pa_bad hp (by assumption) (by omega) (by assumption)]; rfl)), (by first | (rw [Tc.pa_bad hp (by assumption) (by omega) (by assumption)]; done) | (rw [Tc.pa_bad hp (by assumption) (by omega) (by assumption)]; rfl))⟩)
      ·
        have p14 := of_decide_eq_false h12
        refine J.skip ?_
        refine J.region ?_
        refine O.p (Pu.move rfl) rfl ?_
        refine O.q (Qt.ld rfl (Cel.var 0 rfl) (o := 0) (off := 0) rfl (Cut.agg [.int .i64 (((Tc.parse e5).1).kind), .int .i64 (((Tc.parse e5).1).tick), .int .i64 (((Tc.parse e5).1).s), .int .i64 (((Tc.parse e5).1).id), .int .i64 (((Tc.parse e5).1).code), .int .i64 (((Tc.parse e5).1).a), .int .i64 (((Tc.parse e5).1).b)] Tryd.isAgg23 Tryd.sizeOf23 rfl rfl)) rfl ?_
        refine O.l (Lo.buildM (s := 7) Ev.cells [(Tc.parse e5).1] [(0, .agg #[.int .i64 (((Tc.parse e5).1).kind), .int .i64 (((Tc.parse e5).1).tick), .int .i64 (((Tc.parse e5).1).s), .int .i64 (((Tc.parse e5).1).id), .int .i64 (((Tc.parse e5).1).code), .int .i64 (((Tc.parse e5).1).a), .int .i64 (((Tc.parse e5).1).b)])] (by exact Tryd.runUnderlying35) (by exact Tryd.sizeOf23) (by exact Tryd.zeroValue23) rfl rfl rfl (by kernel_rfl) rfl rfl) rfl ?_
        rintro V15 _ rfl
        refine O.l (Lo.appendM (s := 7) 4 (by exact Tryd.underlying35) (by exact (info23).1) (by exact (info23).2.1) (by exact (info23).2.2.1) (by exact (info23).2.2.2) rfl rfl rfl rfl rfl (Src.row 0 rfl) Ev.one (by first | omega | (have h_ := Wd.lines_part s _ (List.mem_of_getElem? (by assumption)); omega) | (simp only [List.length_append, List.length_cons, List.length_nil]; omega)) (by first | omega | (have h_ := Wd.lines_part s _ (List.mem_of_getElem? (by assumption)); omega) | (simp only [List.length_append, List.length_cons, List.length_nil]; omega))) rfl ?_
        rintro V16 _ rfl
        refine O.p (Pu.assign rfl) rfl ?_
        refine O.nil ?_
        refine J.blk ?_
        refine J.region ?_
        refine O.p (Pu.move rfl) rfl ?_
        refine O.p (Pu.add' rfl rfl (by first | omega | (simp only [List.length_append, List.length_cons, List.length_nil, List.length_set]; omega))) rfl ?_
        refine O.p (Pu.assign rfl) rfl ?_
        refine O.nil ?_
        exact J.lp ⟨k + 1, V16, out ++ ([(Tc.parse e5).1])⟩ (show (k + 1) ≤ (Wd.linesL s).length ∧ Tc.PA (Wd.linesL s) (k + 1) (out ++ ([(Tc.parse e5).1])) (Tc.parseAll s) from ⟨by omega, (by first | exact Tc.pa_skip hp (by assumption) (by omega) | exact Tc.pa_add hp (by assumption) (by omega) (by omega))⟩) (show (Wd.linesL s).length - (k + 1) < (Wd.linesL s).length - k from (by first | omega | (have h_ := Wd.lines_part s _ (List.mem_of_getElem? (by assumption)); omega) | (simp only [List.length_append, List.length_cons, List.length_nil]; omega))) ⟨rfl, rfl, (congrArg (fun z => some (Value.int .i64 z)) (by first | rfl | omega : ((k : Int) + 1 : Int) = ((k + 1) : Int))), trivial⟩ [3, 4] (by decide) rfl
  ·
    have p17 := of_decide_eq_false h3
    refine J.exit _ rfl ?_
    refine J.seq ?_
    refine J.region ?_
    refine O.p (Pu.move rfl) rfl ?_
    refine O.p (Pu.assign rfl) rfl ?_
    refine O.p (Pu.assign rfl) rfl ?_
    refine O.p (Pu.assign rfl) rfl ?_
    refine O.nil ?_
    exact J.ret (Fin.ret (rs := [.tmp 2, .tmp 3, .tmp 4]) rfl [_, _, _] ⟨rfl, rfl, rfl, trivial⟩ [1] (by decide) [row V 23 7 (out.map Ev.cells)] rfl ⟨V, (by first | (rw [Tc.pa_end hp (by omega)]; done) | (rw [Tc.pa_end hp (by omega)]; rfl)), (by first | (rw [Tc.pa_end hp (by omega)]; done) | (rw [Tc.pa_end hp (by omega)]; rfl))⟩)

end Go.Proofs.YtnfkoohgdcocdaaDoor
