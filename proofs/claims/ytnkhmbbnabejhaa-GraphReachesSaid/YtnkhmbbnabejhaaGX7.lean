/-
  Walks, printed by a program of mine (lk.py): each function meets its contract.
-/
import Derived.KernelRfl
import Derived.Test.YtnkhmbbnabejhaaGXB
import Derived.Test.YtnkhmbbnabejhaaGX7w
import Derived.Test.YtnkhmbbnabejhaaGraph5
namespace Go.Proofs.Ytnkhmbbnabejhaa
open Go Go.LK
set_option linter.unusedSimpArgs false

set_option maxRecDepth 100000 in
set_option maxHeartbeats 1000000 in
theorem l29_of (cv : Value) (cs : List Lz) (h8 : ¬ 8 < cs.length) : Tri Try.prog 38 #[cv] [rd cv 1 (cs.map Lz.cells), ros (cs.map Lz.rd)] [] (fun v L' => ∃ (V : Value) (l : List Sg), gOf l = cs.map Gr.ten ∧ v = .tuple #[V, .bool true] ∧ L' = [row V 104 14 (l.map Sg.cells), bun (l.map (Sg.row 106))]) := by
 refine Tri.enter (args := [cv]) (body := _) 49 Try.func38 rfl Try.ntmps38 rfl ?_
 intro w0
 refine J.seq ?_
 refine J.region ?_
 refine O.p (Pu.assign rfl) rfl ?_
 refine O.p (Pu.assign rfl) rfl ?_
 refine O.nil ?_
 refine J.seq ?_
 refine J.seq ?_
 refine J.region ?_
 refine O.p (Pu.move rfl) rfl ?_
 refine O.q (Qt.lenM Try.runUnderlying69 rfl (Src.ro 0 rfl)) rfl ?_
 refine O.p (Pu.gtr rfl rfl) rfl ?_
 refine O.nil ?_
 refine J.condF rfl (decide_eq_false (by omega)) ?_
 refine J.skip ?_
 refine J.seq ?_
 refine J.region ?_
 refine O.p (Pu.assign rfl) rfl ?_
 refine O.nil ?_
 refine J.seq ?_
 refine J.seq ?_
 refine J.re (L' := bun (([] : List Sg).map (Sg.row 106)) :: []) Re.new ?_
 refine J.region ?_
 refine O.p (Pu.assign rfl) rfl ?_
 refine O.nil ?_
 refine J.block ?_
 refine J.nilRow 104 14 ?_
 refine J.loop (X := Nat × Value × List Sg) (fun ξ => ξ.1 ≤ cs.length ∧ gOf ξ.2.2 = (cs.take ξ.1).map Gr.ten ∧ ξ.2.2.length ≤ ξ.1) (fun ξ => [(0, cv), (2, Value.slice none 0 0), (3, .bool false), (4, ξ.2.1), (5, .int .i64 (ξ.1 : Int))]) (fun ξ => [row ξ.2.1 104 14 (ξ.2.2.map Sg.cells), bun (ξ.2.2.map (Sg.row 106))]) (fun ξ => cs.length - ξ.1) ⟨0, Value.slice none 0 0, ([] : List Sg)⟩ (show 0 ≤ cs.length ∧ gOf ([] : List Sg) = (cs.take 0).map Gr.ten ∧ ([] : List Sg).length ≤ 0 from ⟨by omega, rfl, by simp⟩) ⟨rfl, rfl, rfl, rfl, (congrArg (fun z => some (Value.int .i64 z)) (by first | rfl | omega : (0 : Int) = (0 : Int))), trivial⟩ [0, 1] (by decide) rfl ?_
 rintro ⟨k, V, l⟩ hq1
 obtain ⟨hk, hst, hlen⟩ : k ≤ cs.length ∧ gOf l = (cs.take k).map Gr.ten ∧ l.length ≤ k := hq1
 show J _ _ [(0, cv), (2, Value.slice none 0 0), (3, .bool false), (4, V), (5, .int .i64 (k : Int))] [row V 104 14 (l.map Sg.cells), bun (l.map (Sg.row 106))]
 refine J.seq ?_
 refine J.seq ?_
 refine J.region ?_
 refine O.p (Pu.move rfl) rfl ?_
 refine O.p (Pu.move rfl) rfl ?_
 refine O.q (Qt.lenM Try.runUnderlying69 rfl (Src.ro 0 rfl)) rfl ?_
 refine O.p (Pu.lss rfl rfl) rfl ?_
 refine O.nil ?_
 refine J.cond rfl (fun h2 => ?_) (fun h2 => ?_)
 ·
  have p3 := of_decide_eq_true h2
  refine J.skip ?_
  refine J.seq ?_
  refine J.block ?_
  refine J.seq ?_
  refine J.region ?_
  refine O.p (Pu.build [] [.int .i64 0, .int .i64 0, .int .i64 0, .int .i64 0, .int .i64 0, .int .i64 0, .int .i64 0, .int .i64 0, .int .i64 0, .int .i64 0, .int .i64 0, .int .i64 0, .int .i64 0, Value.slice none 0 0] #[(0, 1), (1, 1), (2, 1), (3, 1), (4, 1), (5, 1), (6, 7), (13, 1)] Try.runUnderlying104 Try.zeroValue104 (places104 Try.underlying104) rfl (by kernel_rfl)) rfl ?_
  refine O.l (Lo.alloc [.int .i64 0, .int .i64 0, .int .i64 0, .int .i64 0, .int .i64 0, .int .i64 0, .int .i64 0, .int .i64 0, .int .i64 0, .int .i64 0, .int .i64 0, .int .i64 0, .int .i64 0, Value.slice none 0 0] (by exact Try.zeroValue104) rfl) rfl ?_
  rintro _ _ ⟨g4, rfl, rfl⟩
  refine O.l0 (Lo.store 0 (vs := [.int .i64 0, .int .i64 0, .int .i64 0, .int .i64 0, .int .i64 0, .int .i64 0, .int .i64 0, .int .i64 0, .int .i64 0, .int .i64 0, .int .i64 0, .int .i64 0, .int .i64 0, Value.slice none 0 0]) [.int .i64 0, .int .i64 0, .int .i64 0, .int .i64 0, .int .i64 0, .int .i64 0, .int .i64 0, .int .i64 0, .int .i64 0, .int .i64 0, .int .i64 0, .int .i64 0, .int .i64 0, Value.slice none 0 0] rfl rfl rfl (by exact Try.sizeOf104) rfl rfl rfl rfl rfl) ?_
  rintro _ _ rfl
  refine O.nil ?_
  refine J.seq ?_
  refine J.seq ?_
  obtain ⟨e5, he5⟩ : ∃ x_, cs[k]? = some x_ := ⟨_, List.getElem?_eq_getElem (by first | omega | (simp only [List.length_append, List.length_cons, List.length_nil]; omega))⟩
  refine J.ros 1 rfl (A := rd e5.v 1 (e5.l.map encZ)) (List.mem_map.2 ⟨e5, List.mem_of_getElem? he5, rfl⟩) ?_
  refine J.region ?_
  refine O.p (Pu.assign rfl) rfl ?_
  refine O.nil ?_
  refine J.block ?_
  refine J.nilRow 106 4 ?_
  refine J.loop (X := Nat × Value × List Int) (fun ξ => ξ.1 ≤ 10 ∧ ξ.1 ≤ e5.l.length ∧ ξ.2.2 = e5.l.take ξ.1 ∧ ξ.2.2.length ≤ ξ.1) (fun ξ => [(0, cv), (2, Value.slice none 0 0), (3, .bool false), (4, V), (5, .int .i64 (k : Int)), (6, .pointer (some ⟨g4, 0, none⟩)), (7, .int .i64 (ξ.1 : Int))]) (fun ξ => [var g4 [.int .i64 0, .int .i64 0, .int .i64 0, .int .i64 0, .int .i64 0, .int .i64 0, .int .i64 0, .int .i64 0, .int .i64 0, .int .i64 0, .int .i64 0, .int .i64 0, .int .i64 0, ξ.2.1] 104, row ξ.2.1 106 4 (ξ.2.2.map encT), row V 104 14 (l.map Sg.cells), bun (l.map (Sg.row 106))]) (fun ξ => 10 - ξ.1) ⟨0, Value.slice none 0 0, ([] : List Int)⟩ (show 0 ≤ 10 ∧ 0 ≤ e5.l.length ∧ ([] : List Int) = e5.l.take 0 ∧ ([] : List Int).length ≤ 0 from ⟨by omega, by omega, rfl, by simp⟩) ⟨rfl, rfl, rfl, rfl, rfl, rfl, (congrArg (fun z => some (Value.int .i64 z)) (by first | rfl | omega : (0 : Int) = (0 : Int))), trivial⟩ [1, 0, 2, 3] (by decide) rfl ?_
  rintro ⟨q, W, u⟩ hq6
  obtain ⟨hq, hq2, hu, hul⟩ : q ≤ 10 ∧ q ≤ e5.l.length ∧ u = e5.l.take q ∧ u.length ≤ q := hq6
  show J _ _ [(0, cv), (2, Value.slice none 0 0), (3, .bool false), (4, V), (5, .int .i64 (k : Int)), (6, .pointer (some ⟨g4, 0, none⟩)), (7, .int .i64 (q : Int))] [var g4 [.int .i64 0, .int .i64 0, .int .i64 0, .int .i64 0, .int .i64 0, .int .i64 0, .int .i64 0, .int .i64 0, .int .i64 0, .int .i64 0, .int .i64 0, .int .i64 0, .int .i64 0, W] 104, row W 106 4 (u.map encT), row V 104 14 (l.map Sg.cells), bun (l.map (Sg.row 106))]
  refine J.seq ?_
  refine J.seq ?_
  refine J.region ?_
  refine O.p (Pu.move rfl) rfl ?_
  refine O.p (Pu.move rfl) rfl ?_
  refine O.p (Pu.move rfl) rfl ?_
  refine O.q (Qt.idxM Try.runUnderlying69 Try.sizeOf24 rfl (Src.ro 0 rfl) rfl (by first | omega | (simp only [List.length_append, List.length_cons, List.length_nil]; omega)) (by first | omega | (simp only [List.length_append, List.length_cons, List.length_nil]; omega))) rfl ?_
  refine O.q (Qt.ld rfl (Cel.eltM (Src.ro 0 rfl) he5) (o := (voff cv + k * 1)) (off := 0) (by omega) (Cut.one Try.isAgg24 rfl)) rfl ?_
  refine O.q (Qt.lenM Try.runUnderlying24 rfl (Src.ro 2 rfl)) rfl ?_
  refine O.p (Pu.lss rfl rfl) rfl ?_
  refine O.p (Pu.move rfl) rfl ?_
  refine by_bool (decide ((q : Int) < (e5.l.length : Int))) (fun h7 => ?_) (fun h7 => ?_)
  ·
   have p8 := of_decide_eq_true h7
   refine O.gq (t := 25) rfl rfl h7 rfl (Pu.qt (Pu.move rfl)) rfl ?_
   refine O.gq (t := 25) rfl rfl h7 rfl (Pu.qt (Pu.lss rfl rfl)) rfl ?_
   refine O.p (Pu.pickT rfl h7 rfl) rfl ?_
   refine O.nil ?_
   refine J.cond rfl (fun h9 => ?_) (fun h9 => ?_)
   ·
    have p10 := of_decide_eq_true h9
    refine J.skip ?_
    refine J.seq ?_
    refine J.block ?_
    refine J.drawMix [(0, false), (1, false), (2, false), (3, false), (4, false), (5, false), (6, false), (7, false), (8, false), (9, false), (10, true), (11, true), (12, false), (13, true)] [0] [var g4 [.int .i64 0, .int .i64 0, .int .i64 0, .int .i64 0, .int .i64 0, .int .i64 0, .int .i64 0, .int .i64 0, .int .i64 0, .int .i64 0, .int .i64 0, .int .i64 0, .int .i64 0, W] 104] Try.mixed (by kernel_rfl) (by decide) rfl ?_
    refine Mx.p rfl (Pu.fieldAddr (off' := 13) Try.runUnderlying104 rfl Try.sizeOf102 rfl rfl rfl) rfl ?_
    refine Mx.q rfl (Qt.ld rfl (Cel.var 0 rfl) (o := 0) (off := 13) rfl (Cut.one Try.isAgg102 rfl)) rfl ?_
    refine Mx.p rfl (Pu.move rfl) rfl ?_
    refine Mx.p rfl (Pu.move rfl) rfl ?_
    refine Mx.q rfl (Qt.idxM Try.runUnderlying69 Try.sizeOf24 rfl (Src.ro 0 rfl) rfl (by first | omega | (simp only [List.length_append, List.length_cons, List.length_nil]; omega)) (by first | omega | (simp only [List.length_append, List.length_cons, List.length_nil]; omega))) rfl ?_
    refine Mx.q rfl (Qt.ld rfl (Cel.eltM (Src.ro 0 rfl) he5) (o := (voff cv + k * 1)) (off := 0) (by omega) (Cut.one Try.isAgg24 rfl)) rfl ?_
    refine Mx.p rfl (Pu.move rfl) rfl ?_
    obtain ⟨e11, he11⟩ : ∃ x_, e5.l[q]? = some x_ := ⟨_, List.getElem?_eq_getElem (by first | omega | (simp only [List.length_append, List.length_cons, List.length_nil]; omega))⟩
    refine Mx.q rfl (Qt.idxM Try.runUnderlying24 Try.sizeOf3 rfl (Src.ro 2 rfl) rfl (by first | omega | (simp only [List.length_append, List.length_cons, List.length_nil]; omega)) (by first | omega | (simp only [List.length_append, List.length_cons, List.length_nil]; omega))) rfl ?_
    refine Mx.q rfl (Qt.ld rfl (Cel.eltM (Src.ro 2 rfl) he11) (o := (voff e5.v + q * 1)) (off := 0) (by omega) (Cut.one Try.isAgg3 rfl)) rfl ?_
    refine Mx.p rfl (Pu.build [(0, .int .i64 e11)] [.int .i64 e11, .int .i64 0, .int .i64 0, .int .i64 0] #[(0, 1), (1, 1), (2, 1), (3, 1)] Try.runUnderlying106 Try.zeroValue106 (places106 Try.underlying106) rfl (by kernel_rfl)) rfl ?_
    refine Mx.l rfl (Lo.buildM (s := 4) encT [e11] [(0, .agg #[.int .i64 e11, .int .i64 0, .int .i64 0, .int .i64 0])] (by exact Try.runUnderlying102) (by exact Try.sizeOf106) (by exact Try.zeroValue106) rfl rfl rfl (by kernel_rfl) rfl rfl) rfl ?_
    rintro V12 _ rfl
    refine MxK.go [1] [0] [var g4 [.int .i64 0, .int .i64 0, .int .i64 0, .int .i64 0, .int .i64 0, .int .i64 0, .int .i64 0, .int .i64 0, .int .i64 0, .int .i64 0, .int .i64 0, .int .i64 0, .int .i64 0, W] 104] (by decide) rfl (by decide) rfl ?_
    refine Mx.l rfl (Lo.appendM (s := 4) 2 (by exact Try.underlying102) (by exact (info106).1) (by exact (info106).2.1) (by exact (info106).2.2.1) (by exact (info106).2.2.2) rfl rfl rfl rfl rfl (Src.row 0 rfl) encT.one (by first | omega | (simp only [List.length_append, List.length_cons, List.length_nil]; omega)) (by first | omega | (simp only [List.length_append, List.length_cons, List.length_nil]; omega))) rfl ?_
    rintro V13 _ rfl
    refine MxK.go [1] [0] [var g4 [.int .i64 0, .int .i64 0, .int .i64 0, .int .i64 0, .int .i64 0, .int .i64 0, .int .i64 0, .int .i64 0, .int .i64 0, .int .i64 0, .int .i64 0, .int .i64 0, .int .i64 0, W] 104] (by decide) rfl (by decide) rfl ?_
    refine Mx.p rfl (Pu.fieldAddr (off' := 13) Try.runUnderlying104 rfl Try.sizeOf102 rfl rfl rfl) rfl ?_
    refine Mx.one rfl (fun _ h => by cases h <;> rfl) (Src.row 2 rfl) (fun hV14 => ?_)
    refine Mx.l0 rfl (Lo.store 1 (vs := [V13]) [.int .i64 0, .int .i64 0, .int .i64 0, .int .i64 0, .int .i64 0, .int .i64 0, .int .i64 0, .int .i64 0, .int .i64 0, .int .i64 0, .int .i64 0, .int .i64 0, .int .i64 0, V13] rfl rfl rfl (by exact Try.sizeOf102) (one_cells hV14) rfl (one_all hV14) rfl rfl) ?_
    rintro _ _ rfl
    refine MxK.all [1] [var g4 [.int .i64 0, .int .i64 0, .int .i64 0, .int .i64 0, .int .i64 0, .int .i64 0, .int .i64 0, .int .i64 0, .int .i64 0, .int .i64 0, .int .i64 0, .int .i64 0, .int .i64 0, V13] 104] (by decide) rfl (by kernel_rfl) ?_
    refine Mx.nil ?_
    refine J.blk ?_
    refine J.region ?_
    refine O.p (Pu.move rfl) rfl ?_
    refine O.p (Pu.add' rfl rfl (by omega)) rfl ?_
    refine O.p (Pu.assign rfl) rfl ?_
    refine O.nil ?_
    exact J.lp ⟨q + 1, V13, u ++ ([e11])⟩ (show (q + 1) ≤ 10 ∧ (q + 1) ≤ e5.l.length ∧ (u ++ ([e11])) = e5.l.take (q + 1) ∧ (u ++ ([e11])).length ≤ (q + 1) from ⟨by omega, by omega, (by rw [hu, List.take_add_one, he11]; rfl), (by first | omega | (simp only [List.length_append, List.length_cons, List.length_nil]; omega))⟩) (show 10 - (q + 1) < 10 - q from (by first | omega | (simp only [List.length_append, List.length_cons, List.length_nil]; omega))) ⟨rfl, rfl, rfl, rfl, rfl, rfl, (congrArg (fun z => some (Value.int .i64 z)) (by first | rfl | omega : ((q : Int) + 1 : Int) = ((q + 1) : Int))), trivial⟩ [1, 2, 3, 4] (by decide) rfl
   ·
    have p15 := of_decide_eq_false h9
    refine J.exit _ rfl ?_
    refine J.one (Src.row 1 rfl) (fun hV => ?_)
    refine J.region ?_
    refine O.p (Pu.move rfl) rfl ?_
    refine O.q (Qt.ld rfl (Cel.var 0 rfl) (o := 0) (off := 0) rfl (Cut.agg [.int .i64 0, .int .i64 0, .int .i64 0, .int .i64 0, .int .i64 0, .int .i64 0, .int .i64 0, .int .i64 0, .int .i64 0, .int .i64 0, .int .i64 0, .int .i64 0, .int .i64 0, W] Try.isAgg104 Try.sizeOf104 rfl rfl)) rfl ?_
    refine O.l (Lo.buildM (s := 14) Sg.cells [(⟨W, u, hV⟩ : Sg)] [(0, .agg #[.int .i64 0, .int .i64 0, .int .i64 0, .int .i64 0, .int .i64 0, .int .i64 0, .int .i64 0, .int .i64 0, .int .i64 0, .int .i64 0, .int .i64 0, .int .i64 0, .int .i64 0, W])] (by exact Try.runUnderlying70) (by exact Try.sizeOf104) (by exact Try.zeroValue104) rfl rfl rfl (by kernel_rfl) rfl rfl) rfl ?_
    rintro V16 _ rfl
    refine O.l (Lo.appendM (s := 14) 3 (by exact Try.underlying70) (by exact (info104).1) (by exact (info104).2.1) (by exact (info104).2.2.1) (by exact (info104).2.2.2) rfl rfl rfl rfl rfl (Src.row 0 rfl) Sg.one (by first | omega | (simp only [List.length_append, List.length_cons, List.length_nil]; omega)) (by first | omega | (simp only [List.length_append, List.length_cons, List.length_nil]; omega))) rfl ?_
    rintro V17 _ rfl
    refine O.p (Pu.assign rfl) rfl ?_
    refine O.nil ?_
    refine J.blk ?_
    refine J.re (L' := [bun ((l ++ ([(⟨W, u, hV⟩ : Sg)])).map (Sg.row 106)), row V17 104 14 ((l ++ ([(⟨W, u, hV⟩ : Sg)])).map Sg.cells)]) (Re.trans (Re.sel [2, 4, 3] (by decide) rfl) (sg_into hV)) ?_
    refine J.region ?_
    refine O.p (Pu.move rfl) rfl ?_
    refine O.p (Pu.add' rfl rfl (by omega)) rfl ?_
    refine O.p (Pu.assign rfl) rfl ?_
    refine O.nil ?_
    exact J.lp ⟨k + 1, V17, l ++ ([(⟨W, u, hV⟩ : Sg)])⟩ (show (k + 1) ≤ cs.length ∧ gOf (l ++ ([(⟨W, u, hV⟩ : Sg)])) = (cs.take (k + 1)).map Gr.ten ∧ (l ++ ([(⟨W, u, hV⟩ : Sg)])).length ≤ (k + 1) from ⟨by omega, Gr.gOf_next hst he5 hu (by omega) (by omega), (by first | omega | (simp only [List.length_append, List.length_cons, List.length_nil]; omega))⟩) (show cs.length - (k + 1) < cs.length - k from (by first | omega | (simp only [List.length_append, List.length_cons, List.length_nil]; omega))) ⟨rfl, rfl, rfl, rfl, (congrArg (fun z => some (Value.int .i64 z)) (by first | rfl | omega : ((k : Int) + 1 : Int) = ((k + 1) : Int))), trivial⟩ [1, 0] (by decide) rfl
  ·
   have p18 := of_decide_eq_false h7
   refine O.gskip (t := 25) rfl rfl (no_bool (by rw [h7]; decide)) rfl rfl ?_
   refine O.gskip (t := 25) rfl rfl (no_bool (by rw [h7]; decide)) rfl rfl ?_
   refine O.p (Pu.pickF rfl h7 rfl) rfl ?_
   refine O.nil ?_
   refine J.condF rfl rfl ?_
   refine J.exit _ rfl ?_
   refine J.one (Src.row 1 rfl) (fun hV => ?_)
   refine J.region ?_
   refine O.p (Pu.move rfl) rfl ?_
   refine O.q (Qt.ld rfl (Cel.var 0 rfl) (o := 0) (off := 0) rfl (Cut.agg [.int .i64 0, .int .i64 0, .int .i64 0, .int .i64 0, .int .i64 0, .int .i64 0, .int .i64 0, .int .i64 0, .int .i64 0, .int .i64 0, .int .i64 0, .int .i64 0, .int .i64 0, W] Try.isAgg104 Try.sizeOf104 rfl rfl)) rfl ?_
   refine O.l (Lo.buildM (s := 14) Sg.cells [(⟨W, u, hV⟩ : Sg)] [(0, .agg #[.int .i64 0, .int .i64 0, .int .i64 0, .int .i64 0, .int .i64 0, .int .i64 0, .int .i64 0, .int .i64 0, .int .i64 0, .int .i64 0, .int .i64 0, .int .i64 0, .int .i64 0, W])] (by exact Try.runUnderlying70) (by exact Try.sizeOf104) (by exact Try.zeroValue104) rfl rfl rfl (by kernel_rfl) rfl rfl) rfl ?_
   rintro V19 _ rfl
   refine O.l (Lo.appendM (s := 14) 3 (by exact Try.underlying70) (by exact (info104).1) (by exact (info104).2.1) (by exact (info104).2.2.1) (by exact (info104).2.2.2) rfl rfl rfl rfl rfl (Src.row 0 rfl) Sg.one (by first | omega | (simp only [List.length_append, List.length_cons, List.length_nil]; omega)) (by first | omega | (simp only [List.length_append, List.length_cons, List.length_nil]; omega))) rfl ?_
   rintro V20 _ rfl
   refine O.p (Pu.assign rfl) rfl ?_
   refine O.nil ?_
   refine J.blk ?_
   refine J.re (L' := [bun ((l ++ ([(⟨W, u, hV⟩ : Sg)])).map (Sg.row 106)), row V20 104 14 ((l ++ ([(⟨W, u, hV⟩ : Sg)])).map Sg.cells)]) (Re.trans (Re.sel [2, 4, 3] (by decide) rfl) (sg_into hV)) ?_
   refine J.region ?_
   refine O.p (Pu.move rfl) rfl ?_
   refine O.p (Pu.add' rfl rfl (by omega)) rfl ?_
   refine O.p (Pu.assign rfl) rfl ?_
   refine O.nil ?_
   exact J.lp ⟨k + 1, V20, l ++ ([(⟨W, u, hV⟩ : Sg)])⟩ (show (k + 1) ≤ cs.length ∧ gOf (l ++ ([(⟨W, u, hV⟩ : Sg)])) = (cs.take (k + 1)).map Gr.ten ∧ (l ++ ([(⟨W, u, hV⟩ : Sg)])).length ≤ (k + 1) from ⟨by omega, Gr.gOf_next hst he5 hu (by omega) (by omega), (by first | omega | (simp only [List.length_append, List.length_cons, List.length_nil]; omega))⟩) (show cs.length - (k + 1) < cs.length - k from (by first | omega | (simp only [List.length_append, List.length_cons, List.length_nil]; omega))) ⟨rfl, rfl, rfl, rfl, (congrArg (fun z => some (Value.int .i64 z)) (by first | rfl | omega : ((k : Int) + 1 : Int) = ((k + 1) : Int))), trivial⟩ [1, 0] (by decide) rfl
 ·
  have p21 := of_decide_eq_false h2
  refine J.exit _ rfl ?_
  refine J.seq ?_
  refine J.region ?_
  refine O.p (Pu.move rfl) rfl ?_
  refine O.p (Pu.assign rfl) rfl ?_
  refine O.p (Pu.assign rfl) rfl ?_
  refine O.nil ?_
  exact J.ret (Fin.ret (rs := [.tmp 2, .tmp 3]) rfl [_, _] ⟨rfl, rfl, trivial⟩ [0, 1] (by decide) [row V 104 14 (l.map Sg.cells), bun (l.map (Sg.row 106))] rfl ⟨V, l, (by rw [hst, List.take_of_length_le (by omega)]), rfl, rfl⟩)

set_option maxRecDepth 100000 in
theorem l29_ofNo (cv : Value) (cs : List Lz) (h8 : 8 < cs.length) : Tri Try.prog 38 #[cv] [rd cv 1 (cs.map Lz.cells), ros (cs.map Lz.rd)] [] (fun v L' => v = .tuple #[.slice none 0 0, .bool false] ∧ L' = []) := by
 refine Tri.enter (args := [cv]) (body := _) 49 Try.func38 rfl Try.ntmps38 rfl ?_
 intro w0
 refine J.seq ?_
 refine J.region ?_
 refine O.p (Pu.assign rfl) rfl ?_
 refine O.p (Pu.assign rfl) rfl ?_
 refine O.nil ?_
 refine J.seq ?_
 refine J.seq ?_
 refine J.region ?_
 refine O.p (Pu.move rfl) rfl ?_
 refine O.q (Qt.lenM Try.runUnderlying69 rfl (Src.ro 0 rfl)) rfl ?_
 refine O.p (Pu.gtr rfl rfl) rfl ?_
 refine O.nil ?_
 refine J.condT rfl (decide_eq_true (by omega)) ?_
 refine J.seq ?_
 refine J.region ?_
 refine O.p (Pu.assign rfl) rfl ?_
 refine O.p (Pu.assign rfl) rfl ?_
 refine O.nil ?_
 exact J.ret (Fin.ret (rs := [.tmp 2, .tmp 3]) rfl [_, _] ⟨rfl, rfl, trivial⟩ [] (by decide) [] rfl ⟨rfl, rfl⟩)

set_option maxRecDepth 100000 in
set_option maxHeartbeats 2000000 in
theorem l29_awake  : Tri Try.prog 39 #[] [] [] (fun v L' => v = .bool true ∧ L' = []) := by
 refine Tri.enter (args := []) (body := _) 66 Try.func39 rfl Try.ntmps39 rfl ?_
 intro w0
 refine J.seq ?_
 refine J.region ?_
 refine O.p (Pu.assign rfl) rfl ?_
 refine O.nil ?_
 refine J.seq ?_
 refine J.region ?_
 refine O.l (Lo.buildM (s := 1) encZ [1, 2] [(0, .int .i64 1), (1, .int .i64 2)] (by exact Try.runUnderlying24) (by exact Try.sizeOf3) (by exact Try.zeroValue3) rfl rfl rfl (by kernel_rfl) rfl rfl) rfl ?_
 rintro V1 _ rfl
 refine O.l (Lo.buildM (s := 1) encZ [2] [(0, .int .i64 2)] (by exact Try.runUnderlying24) (by exact Try.sizeOf3) (by exact Try.zeroValue3) rfl rfl rfl (by kernel_rfl) rfl rfl) rfl ?_
 rintro V2 _ rfl
 refine O.l (Lo.buildE encZ (by exact Try.runUnderlying24) (by exact Try.sizeOf3)) rfl ?_
 rintro V3 _ rfl
 refine O.one (Src.row 2 rfl) (fun hV5 => ?_)
 refine O.one (Src.row 1 rfl) (fun hV6 => ?_)
 refine O.one (Src.row 0 rfl) (fun hV7 => ?_)
 refine O.l (Lo.buildM (s := 1) Lz.cells [(⟨V1, [1, 2]⟩ : Lz), (⟨V2, [2]⟩ : Lz), (⟨V3, []⟩ : Lz)] [(0, V1), (1, V2), (2, V3)] (by exact Try.runUnderlying69) (by exact Try.sizeOf24) (by exact Try.zeroValue24) rfl rfl rfl (by simp only [Instr.fill, one_cells hV5, one_cells hV6, one_cells hV7]; kernel_rfl) rfl rfl) rfl ?_
 rintro V4 _ rfl
 refine O.re (L' := [bun (([(⟨V1, [1, 2]⟩ : Lz), (⟨V2, [2]⟩ : Lz), (⟨V3, []⟩ : Lz)]).map (Lz.row 3)), row V4 24 1 (([(⟨V1, [1, 2]⟩ : Lz), (⟨V2, [2]⟩ : Lz), (⟨V3, []⟩ : Lz)]).map Lz.cells)]) (Re.trans (Re.sel [3, 2, 1, 0] (by decide) rfl) (Re.bunIn (As := [row V1 3 1 (([1, 2]).map encZ), row V2 3 1 (([2]).map encZ), row V3 3 1 (([] : List Int).map encZ)]))) ?_
 refine O.l (Lo.call [V4] (by exact Try.call38) rfl (l29_of V4 ([(⟨V1, [1, 2]⟩ : Lz), (⟨V2, [2]⟩ : Lz), (⟨V3, []⟩ : Lz)]) (by simp)) [] [0, 1] (by decide) rfl [bun (([(⟨V1, [1, 2]⟩ : Lz), (⟨V2, [2]⟩ : Lz), (⟨V3, []⟩ : Lz)]).map (Lz.row 3)), row V4 24 1 (([(⟨V1, [1, 2]⟩ : Lz), (⟨V2, [2]⟩ : Lz), (⟨V3, []⟩ : Lz)]).map Lz.cells)] rfl (RoOk.of 1 rfl row_rd [] (by decide) rfl (RoOk.of 0 rfl lz_ros [] (by decide) rfl RoOk.nil))) rfl ?_
 rintro _ _ ⟨_, ⟨V8, l8, hg8, rfl, rfl⟩, rfl⟩
 obtain ⟨hk8, hc8⟩ := Gr.of_small hg8 (by simp)
 have hl8 : l8.length ≤ 1000 := by omega
 have hgl8 := gOf_len (l := l8)
 have hx8 : gOf l8 = [[1, 2], [2], []] := hg8
 refine O.p (Pu.move rfl) rfl ?_
 refine O.p (Pu.extract rfl rfl) rfl ?_
 refine O.p (Pu.extract rfl rfl) rfl ?_
 refine O.p (Pu.assign rfl) rfl ?_
 refine O.p (Pu.assign rfl) rfl ?_
 refine O.nil ?_
 refine J.seq ?_
 refine J.region ?_
 refine O.p (Pu.move rfl) rfl ?_
 refine O.l (Lo.call [V8] (by exact Try.call40) rfl (g_Order V8 l8 hl8 hc8) [] [0, 1, 2, 3] (by decide) rfl [row V8 104 14 (l8.map Sg.cells), bun (l8.map (Sg.row 106)), bun (([(⟨V1, [1, 2]⟩ : Lz), (⟨V2, [2]⟩ : Lz), (⟨V3, []⟩ : Lz)]).map (Lz.row 3)), row V4 24 1 (([(⟨V1, [1, 2]⟩ : Lz), (⟨V2, [2]⟩ : Lz), (⟨V3, []⟩ : Lz)]).map Lz.cells)] rfl (RoOk.of 0 rfl row_rd [] (by decide) rfl (RoOk.of 1 rfl sg_ros [] (by decide) rfl RoOk.nil))) rfl ?_
 rintro _ _ ⟨_, ⟨V10, rfl, rfl⟩, rfl⟩
 refine O.p (Pu.move rfl) rfl ?_
 refine O.p (Pu.extract rfl rfl) rfl ?_
 refine O.p (Pu.extract rfl rfl) rfl ?_
 refine O.p (Pu.assign rfl) rfl ?_
 refine O.p (Pu.assign rfl) rfl ?_
 refine O.nil ?_
 refine J.seq ?_
 refine J.region ?_
 refine O.p (Pu.move rfl) rfl ?_
 refine O.l (Lo.call [.int .i64 0, V8] (by exact Try.call42) rfl (g_Depth V8 l8 0 hl8 hc8) [] [0, 1, 2, 3, 4] (by decide) rfl [row V10 3 1 ((Gr.ordL (gOf l8)).map encZ), row V8 104 14 (l8.map Sg.cells), bun (l8.map (Sg.row 106)), bun (([(⟨V1, [1, 2]⟩ : Lz), (⟨V2, [2]⟩ : Lz), (⟨V3, []⟩ : Lz)]).map (Lz.row 3)), row V4 24 1 (([(⟨V1, [1, 2]⟩ : Lz), (⟨V2, [2]⟩ : Lz), (⟨V3, []⟩ : Lz)]).map Lz.cells)] rfl (RoOk.of 1 rfl row_rd [] (by decide) rfl (RoOk.of 2 rfl sg_ros [] (by decide) rfl RoOk.nil))) rfl ?_
 rintro _ _ ⟨_, ⟨rfl, rfl⟩, rfl⟩
 refine O.p (Pu.move rfl) rfl ?_
 refine O.p (Pu.extract rfl rfl) rfl ?_
 refine O.p (Pu.extract rfl rfl) rfl ?_
 refine O.p (Pu.assign rfl) rfl ?_
 refine O.p (Pu.assign rfl) rfl ?_
 refine O.nil ?_
 refine J.seq ?_
 refine J.region ?_
 refine O.l (Lo.buildM (s := 1) encZ [1] [(0, .int .i64 1)] (by exact Try.runUnderlying24) (by exact Try.sizeOf3) (by exact Try.zeroValue3) rfl rfl rfl (by kernel_rfl) rfl rfl) rfl ?_
 rintro V13 _ rfl
 refine O.l (Lo.buildM (s := 1) encZ [0] [(0, .int .i64 0)] (by exact Try.runUnderlying24) (by exact Try.sizeOf3) (by exact Try.zeroValue3) rfl rfl rfl (by kernel_rfl) rfl rfl) rfl ?_
 rintro V14 _ rfl
 refine O.one (Src.row 1 rfl) (fun hV16 => ?_)
 refine O.one (Src.row 0 rfl) (fun hV17 => ?_)
 refine O.l (Lo.buildM (s := 1) Lz.cells [(⟨V13, [1]⟩ : Lz), (⟨V14, [0]⟩ : Lz)] [(0, V13), (1, V14)] (by exact Try.runUnderlying69) (by exact Try.sizeOf24) (by exact Try.zeroValue24) rfl rfl rfl (by simp only [Instr.fill, one_cells hV16, one_cells hV17]; kernel_rfl) rfl rfl) rfl ?_
 rintro V15 _ rfl
 refine O.re (L' := [bun (([(⟨V13, [1]⟩ : Lz), (⟨V14, [0]⟩ : Lz)]).map (Lz.row 3)), row V15 24 1 (([(⟨V13, [1]⟩ : Lz), (⟨V14, [0]⟩ : Lz)]).map Lz.cells), row V10 3 1 ((Gr.ordL (gOf l8)).map encZ), row V8 104 14 (l8.map Sg.cells), bun (l8.map (Sg.row 106)), bun (([(⟨V1, [1, 2]⟩ : Lz), (⟨V2, [2]⟩ : Lz), (⟨V3, []⟩ : Lz)]).map (Lz.row 3)), row V4 24 1 (([(⟨V1, [1, 2]⟩ : Lz), (⟨V2, [2]⟩ : Lz), (⟨V3, []⟩ : Lz)]).map Lz.cells)]) (Re.trans (Re.sel [2, 1, 0, 3, 4, 5, 6, 7] (by decide) rfl) (Re.bunIn (As := [row V13 3 1 (([1]).map encZ), row V14 3 1 (([0]).map encZ)]))) ?_
 refine O.l (Lo.call [V15] (by exact Try.call38) rfl (l29_of V15 ([(⟨V13, [1]⟩ : Lz), (⟨V14, [0]⟩ : Lz)]) (by simp)) [] [0, 1, 2, 3, 4, 5, 6] (by decide) rfl [bun (([(⟨V13, [1]⟩ : Lz), (⟨V14, [0]⟩ : Lz)]).map (Lz.row 3)), row V15 24 1 (([(⟨V13, [1]⟩ : Lz), (⟨V14, [0]⟩ : Lz)]).map Lz.cells), row V10 3 1 ((Gr.ordL (gOf l8)).map encZ), row V8 104 14 (l8.map Sg.cells), bun (l8.map (Sg.row 106)), bun (([(⟨V1, [1, 2]⟩ : Lz), (⟨V2, [2]⟩ : Lz), (⟨V3, []⟩ : Lz)]).map (Lz.row 3)), row V4 24 1 (([(⟨V1, [1, 2]⟩ : Lz), (⟨V2, [2]⟩ : Lz), (⟨V3, []⟩ : Lz)]).map Lz.cells)] rfl (RoOk.of 1 rfl row_rd [] (by decide) rfl (RoOk.of 0 rfl lz_ros [] (by decide) rfl RoOk.nil))) rfl ?_
 rintro _ _ ⟨_, ⟨V18, l18, hg18, rfl, rfl⟩, rfl⟩
 obtain ⟨hk18, hc18⟩ := Gr.of_small hg18 (by simp)
 have hl18 : l18.length ≤ 1000 := by omega
 have hgl18 := gOf_len (l := l18)
 have hx18 : gOf l18 = [[1], [0]] := hg18
 refine O.p (Pu.move rfl) rfl ?_
 refine O.p (Pu.extract rfl rfl) rfl ?_
 refine O.p (Pu.extract rfl rfl) rfl ?_
 refine O.p (Pu.assign rfl) rfl ?_
 refine O.p (Pu.assign rfl) rfl ?_
 refine O.nil ?_
 refine J.seq ?_
 refine J.region ?_
 refine O.p (Pu.move rfl) rfl ?_
 refine O.l (Lo.buildM (s := 1) encZ [0, 1, 2] [(0, .int .i64 0), (1, .int .i64 1), (2, .int .i64 2)] (by exact Try.runUnderlying24) (by exact Try.sizeOf3) (by exact Try.zeroValue3) rfl rfl rfl (by kernel_rfl) rfl rfl) rfl ?_
 rintro V20 _ rfl
 refine O.l (Lo.call [V10, V20] (by exact Try.call23) rfl (n01_Same V10 V20 (Gr.ordL (gOf l8)) ([0, 1, 2]) (by first | omega | decide | exact Nat.le_trans Gr.ordL_len (by omega) | exact Nat.le_trans Gr.reachI_len (by omega) | exact Nat.le_trans Gr.callers_len (by omega) | exact Nat.le_trans Gr.reachL_len (by omega) | exact Nat.le_trans Gr.marked_len (by omega)) (by first | omega | decide | exact Nat.le_trans Gr.ordL_len (by omega) | exact Nat.le_trans Gr.reachI_len (by omega) | exact Nat.le_trans Gr.callers_len (by omega) | exact Nat.le_trans Gr.reachL_len (by omega) | exact Nat.le_trans Gr.marked_len (by omega))) [] [0, 1, 2, 3, 4, 5, 6, 7, 8, 9] (by decide) rfl [row V20 3 1 (([0, 1, 2]).map encZ), row V18 104 14 (l18.map Sg.cells), bun (l18.map (Sg.row 106)), bun (([(⟨V13, [1]⟩ : Lz), (⟨V14, [0]⟩ : Lz)]).map (Lz.row 3)), row V15 24 1 (([(⟨V13, [1]⟩ : Lz), (⟨V14, [0]⟩ : Lz)]).map Lz.cells), row V10 3 1 ((Gr.ordL (gOf l8)).map encZ), row V8 104 14 (l8.map Sg.cells), bun (l8.map (Sg.row 106)), bun (([(⟨V1, [1, 2]⟩ : Lz), (⟨V2, [2]⟩ : Lz), (⟨V3, []⟩ : Lz)]).map (Lz.row 3)), row V4 24 1 (([(⟨V1, [1, 2]⟩ : Lz), (⟨V2, [2]⟩ : Lz), (⟨V3, []⟩ : Lz)]).map Lz.cells)] rfl (RoOk.of 5 rfl row_rd [] (by decide) rfl (RoOk.of 0 rfl row_rd [] (by decide) rfl RoOk.nil))) rfl ?_
 rintro _ _ ⟨_, ⟨rfl, rfl⟩, rfl⟩
 refine O.p (Pu.move rfl) rfl ?_
 refine O.gq (t := 37) rfl rfl (decide_eq_true (by rw [hx8]; exact Gr.awake_order)) rfl (Pu.qt (Pu.move rfl)) rfl ?_
 refine O.gq (t := 37) rfl rfl (decide_eq_true (by rw [hx8]; exact Gr.awake_order)) rfl (Pu.qt (Pu.eql rfl rfl)) rfl ?_
 refine O.p (Pu.pickT rfl (decide_eq_true (by rw [hx8]; exact Gr.awake_order)) rfl) rfl ?_
 refine O.p (Pu.move rfl) rfl ?_
 refine O.gq (t := 41) rfl rfl (decide_eq_true (by rw [hx8]; exact Gr.awake_ok)) rfl (Pu.qt (Pu.move rfl)) rfl ?_
 refine O.gq (t := 41) rfl rfl (decide_eq_true (by rw [hx8]; exact Gr.awake_ok)) rfl (Pu.qt (Pu.eql rfl rfl)) rfl ?_
 refine O.p (Pu.pickT rfl (decide_eq_true (by rw [hx8]; exact Gr.awake_ok)) rfl) rfl ?_
 refine O.p (Pu.move rfl) rfl ?_
 refine O.gq (t := 45) rfl rfl (decide_eq_true (by rw [hx8, Gr.awake_dep])) rfl (Pu.qt (Pu.move rfl)) rfl ?_
 refine O.gq (t := 45) rfl rfl (decide_eq_true (by rw [hx8, Gr.awake_dep])) rfl (Pu.qt (Pu.eql rfl rfl)) rfl ?_
 refine O.p (Pu.pickT rfl (decide_eq_true (by rw [hx8, Gr.awake_dep])) rfl) rfl ?_
 refine O.p (Pu.move rfl) rfl ?_
 refine O.gq (t := 49) rfl rfl (decide_eq_true (by rw [hx8, Gr.awake_dep])) rfl (Pu.qt (Pu.move rfl)) rfl ?_
 refine O.gl (t := 49) rfl rfl (decide_eq_true (by rw [hx8, Gr.awake_dep])) rfl (Lo.call [V18] (by exact Try.call43) rfl (g_Check V18 l18 hl18 hc18) [] [0, 1, 2, 3, 4, 5, 6, 7, 8, 9] (by decide) rfl [row V20 3 1 (([0, 1, 2]).map encZ), row V18 104 14 (l18.map Sg.cells), bun (l18.map (Sg.row 106)), bun (([(⟨V13, [1]⟩ : Lz), (⟨V14, [0]⟩ : Lz)]).map (Lz.row 3)), row V15 24 1 (([(⟨V13, [1]⟩ : Lz), (⟨V14, [0]⟩ : Lz)]).map Lz.cells), row V10 3 1 ((Gr.ordL (gOf l8)).map encZ), row V8 104 14 (l8.map Sg.cells), bun (l8.map (Sg.row 106)), bun (([(⟨V1, [1, 2]⟩ : Lz), (⟨V2, [2]⟩ : Lz), (⟨V3, []⟩ : Lz)]).map (Lz.row 3)), row V4 24 1 (([(⟨V1, [1, 2]⟩ : Lz), (⟨V2, [2]⟩ : Lz), (⟨V3, []⟩ : Lz)]).map Lz.cells)] rfl (RoOk.of 1 rfl row_rd [] (by decide) rfl (RoOk.of 2 rfl sg_ros [] (by decide) rfl RoOk.nil))) rfl ?_
 rintro _ _ ⟨_, ⟨rfl, rfl⟩, rfl⟩
 refine O.gq (t := 49) rfl rfl (decide_eq_true (by rw [hx8, Gr.awake_dep])) rfl (Pu.qt (Pu.eql rfl rfl)) rfl ?_
 refine O.p (Pu.pickT rfl (decide_eq_true (by rw [hx8, Gr.awake_dep])) rfl) rfl ?_
 refine O.p (Pu.move rfl) rfl ?_
 refine O.gq (t := 54) rfl rfl (decide_eq_true (by rw [hx18]; exact Gr.awake_loop)) rfl (Pu.qt (Pu.move rfl)) rfl ?_
 refine O.gl (t := 54) rfl rfl (decide_eq_true (by rw [hx18]; exact Gr.awake_loop)) rfl (Lo.call [.int .i64 0, V8] (by exact Try.call47) rfl (g_Reach V8 l8 0 hl8 hc8) [] [0, 1, 2, 3, 4, 5, 6, 7, 8, 9] (by decide) rfl [row V20 3 1 (([0, 1, 2]).map encZ), row V18 104 14 (l18.map Sg.cells), bun (l18.map (Sg.row 106)), bun (([(⟨V13, [1]⟩ : Lz), (⟨V14, [0]⟩ : Lz)]).map (Lz.row 3)), row V15 24 1 (([(⟨V13, [1]⟩ : Lz), (⟨V14, [0]⟩ : Lz)]).map Lz.cells), row V10 3 1 ((Gr.ordL (gOf l8)).map encZ), row V8 104 14 (l8.map Sg.cells), bun (l8.map (Sg.row 106)), bun (([(⟨V1, [1, 2]⟩ : Lz), (⟨V2, [2]⟩ : Lz), (⟨V3, []⟩ : Lz)]).map (Lz.row 3)), row V4 24 1 (([(⟨V1, [1, 2]⟩ : Lz), (⟨V2, [2]⟩ : Lz), (⟨V3, []⟩ : Lz)]).map Lz.cells)] rfl (RoOk.of 6 rfl row_rd [] (by decide) rfl (RoOk.of 7 rfl sg_ros [] (by decide) rfl RoOk.nil))) rfl ?_
 rintro v23 _ ⟨_, rfl, rfl⟩
 refine O.gl (t := 54) rfl rfl (decide_eq_true (by rw [hx18]; exact Gr.awake_loop)) rfl (Lo.buildM (s := 1) encZ [1, 2] [(0, .int .i64 1), (1, .int .i64 2)] (by exact Try.runUnderlying24) (by exact Try.sizeOf3) (by exact Try.zeroValue3) rfl rfl rfl (by kernel_rfl) rfl rfl) rfl ?_
 rintro V24 _ rfl
 refine O.gl (t := 54) rfl rfl (decide_eq_true (by rw [hx18]; exact Gr.awake_loop)) rfl (Lo.call [v23, V24] (by exact Try.call23) rfl (n01_Same v23 V24 (Gr.reachI (gOf l8) 0) ([1, 2]) (by first | omega | decide | exact Nat.le_trans Gr.ordL_len (by omega) | exact Nat.le_trans Gr.reachI_len (by omega) | exact Nat.le_trans Gr.callers_len (by omega) | exact Nat.le_trans Gr.reachL_len (by omega) | exact Nat.le_trans Gr.marked_len (by omega)) (by first | omega | decide | exact Nat.le_trans Gr.ordL_len (by omega) | exact Nat.le_trans Gr.reachI_len (by omega) | exact Nat.le_trans Gr.callers_len (by omega) | exact Nat.le_trans Gr.reachL_len (by omega) | exact Nat.le_trans Gr.marked_len (by omega))) [] [0, 1, 2, 3, 4, 5, 6, 7, 8, 9, 10, 11] (by decide) rfl [row V24 3 1 (([1, 2]).map encZ), row v23 3 1 ((Gr.reachI (gOf l8) 0).map encZ), row V20 3 1 (([0, 1, 2]).map encZ), row V18 104 14 (l18.map Sg.cells), bun (l18.map (Sg.row 106)), bun (([(⟨V13, [1]⟩ : Lz), (⟨V14, [0]⟩ : Lz)]).map (Lz.row 3)), row V15 24 1 (([(⟨V13, [1]⟩ : Lz), (⟨V14, [0]⟩ : Lz)]).map Lz.cells), row V10 3 1 ((Gr.ordL (gOf l8)).map encZ), row V8 104 14 (l8.map Sg.cells), bun (l8.map (Sg.row 106)), bun (([(⟨V1, [1, 2]⟩ : Lz), (⟨V2, [2]⟩ : Lz), (⟨V3, []⟩ : Lz)]).map (Lz.row 3)), row V4 24 1 (([(⟨V1, [1, 2]⟩ : Lz), (⟨V2, [2]⟩ : Lz), (⟨V3, []⟩ : Lz)]).map Lz.cells)] rfl (RoOk.of 1 rfl row_rd [] (by decide) rfl (RoOk.of 0 rfl row_rd [] (by decide) rfl RoOk.nil))) rfl ?_
 rintro _ _ ⟨_, ⟨rfl, rfl⟩, rfl⟩
 refine O.p (Pu.pickT rfl (decide_eq_true (by rw [hx18]; exact Gr.awake_loop)) rfl) rfl ?_
 refine O.p (Pu.move rfl) rfl ?_
 refine O.gq (t := 60) rfl rfl (decide_eq_true (by rw [hx8]; exact Gr.awake_reach)) rfl (Pu.qt (Pu.move rfl)) rfl ?_
 refine O.gl (t := 60) rfl rfl (decide_eq_true (by rw [hx8]; exact Gr.awake_reach)) rfl (Lo.call [.int .i64 2, V8] (by exact Try.call45) rfl (g_Callers V8 l8 2 hl8 hc8) [] [0, 1, 2, 3, 4, 5, 6, 7, 8, 9, 10, 11] (by decide) rfl [row V24 3 1 (([1, 2]).map encZ), row v23 3 1 ((Gr.reachI (gOf l8) 0).map encZ), row V20 3 1 (([0, 1, 2]).map encZ), row V18 104 14 (l18.map Sg.cells), bun (l18.map (Sg.row 106)), bun (([(⟨V13, [1]⟩ : Lz), (⟨V14, [0]⟩ : Lz)]).map (Lz.row 3)), row V15 24 1 (([(⟨V13, [1]⟩ : Lz), (⟨V14, [0]⟩ : Lz)]).map Lz.cells), row V10 3 1 ((Gr.ordL (gOf l8)).map encZ), row V8 104 14 (l8.map Sg.cells), bun (l8.map (Sg.row 106)), bun (([(⟨V1, [1, 2]⟩ : Lz), (⟨V2, [2]⟩ : Lz), (⟨V3, []⟩ : Lz)]).map (Lz.row 3)), row V4 24 1 (([(⟨V1, [1, 2]⟩ : Lz), (⟨V2, [2]⟩ : Lz), (⟨V3, []⟩ : Lz)]).map Lz.cells)] rfl (RoOk.of 8 rfl row_rd [] (by decide) rfl (RoOk.of 9 rfl sg_ros [] (by decide) rfl RoOk.nil))) rfl ?_
 rintro v26 _ ⟨_, rfl, rfl⟩
 refine O.gl (t := 60) rfl rfl (decide_eq_true (by rw [hx8]; exact Gr.awake_reach)) rfl (Lo.buildM (s := 1) encZ [0, 1] [(0, .int .i64 0), (1, .int .i64 1)] (by exact Try.runUnderlying24) (by exact Try.sizeOf3) (by exact Try.zeroValue3) rfl rfl rfl (by kernel_rfl) rfl rfl) rfl ?_
 rintro V27 _ rfl
 refine O.gl (t := 60) rfl rfl (decide_eq_true (by rw [hx8]; exact Gr.awake_reach)) rfl (Lo.call [v26, V27] (by exact Try.call23) rfl (n01_Same v26 V27 (Gr.callers (gOf l8) 2) ([0, 1]) (by first | omega | decide | exact Nat.le_trans Gr.ordL_len (by omega) | exact Nat.le_trans Gr.reachI_len (by omega) | exact Nat.le_trans Gr.callers_len (by omega) | exact Nat.le_trans Gr.reachL_len (by omega) | exact Nat.le_trans Gr.marked_len (by omega)) (by first | omega | decide | exact Nat.le_trans Gr.ordL_len (by omega) | exact Nat.le_trans Gr.reachI_len (by omega) | exact Nat.le_trans Gr.callers_len (by omega) | exact Nat.le_trans Gr.reachL_len (by omega) | exact Nat.le_trans Gr.marked_len (by omega))) [] [0, 1, 2, 3, 4, 5, 6, 7, 8, 9, 10, 11, 12, 13] (by decide) rfl [row V27 3 1 (([0, 1]).map encZ), row v26 3 1 ((Gr.callers (gOf l8) 2).map encZ), row V24 3 1 (([1, 2]).map encZ), row v23 3 1 ((Gr.reachI (gOf l8) 0).map encZ), row V20 3 1 (([0, 1, 2]).map encZ), row V18 104 14 (l18.map Sg.cells), bun (l18.map (Sg.row 106)), bun (([(⟨V13, [1]⟩ : Lz), (⟨V14, [0]⟩ : Lz)]).map (Lz.row 3)), row V15 24 1 (([(⟨V13, [1]⟩ : Lz), (⟨V14, [0]⟩ : Lz)]).map Lz.cells), row V10 3 1 ((Gr.ordL (gOf l8)).map encZ), row V8 104 14 (l8.map Sg.cells), bun (l8.map (Sg.row 106)), bun (([(⟨V1, [1, 2]⟩ : Lz), (⟨V2, [2]⟩ : Lz), (⟨V3, []⟩ : Lz)]).map (Lz.row 3)), row V4 24 1 (([(⟨V1, [1, 2]⟩ : Lz), (⟨V2, [2]⟩ : Lz), (⟨V3, []⟩ : Lz)]).map Lz.cells)] rfl (RoOk.of 1 rfl row_rd [] (by decide) rfl (RoOk.of 0 rfl row_rd [] (by decide) rfl RoOk.nil))) rfl ?_
 rintro _ _ ⟨_, ⟨rfl, rfl⟩, rfl⟩
 refine O.p (Pu.pickT rfl (decide_eq_true (by rw [hx8]; exact Gr.awake_reach)) rfl) rfl ?_
 refine O.p (Pu.assign rfl) rfl ?_
 refine O.nil ?_
 exact J.ret (Fin.ret (rs := [.tmp 0]) rfl [_] ⟨rfl, trivial⟩ [] (by decide) [] rfl ⟨(congrArg Value.bool (decide_eq_true (by rw [hx8]; decide))), rfl⟩)

end Go.Proofs.Ytnkhmbbnabejhaa
