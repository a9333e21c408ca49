/-
  Walks, printed by a program of mine (lk.py): each function meets its contract.
-/
import Derived.KernelRfl
import Derived.Test.YtilcmkegbmppnaaDoorRX7
namespace Go.Proofs.YtilcmkegbmppnaaDoor
open Go Go.LK
set_option linter.unusedSimpArgs false

set_option maxRecDepth 100000 in
set_option maxHeartbeats 4000000 in
theorem r41_Read (lv : Value) (l : List Ev) (hl : l.length ≤ 80000) : Tri Tryd.prog 66 #[lv] [rd lv 7 (l.map Ev.cells)] [] (fun v L' => ∃ V', v = .tuple #[V', .int .i64 (Ld.read l).2.1, .int .i64 (Ld.read l).2.2] ∧ L' = [row V' 98 8 ((Ld.read l).1.map Ft.cells)]) := by
 refine Tri.enter (args := [lv]) (body := _) 150 Tryd.func66 rfl Tryd.ntmps66 rfl ?_
 intro w0
 refine J.seq ?_
 refine J.region ?_
 refine O.p (Pu.assign rfl) rfl ?_
 refine O.p (Pu.assign rfl) rfl ?_
 refine O.p (Pu.assign rfl) rfl ?_
 refine O.nil ?_
 refine J.seq ?_
 refine J.region ?_
 refine O.p (Pu.assign rfl) rfl ?_
 refine O.nil ?_
 refine J.seq ?_
 refine J.seq ?_
 refine J.region ?_
 refine O.p (Pu.assign rfl) rfl ?_
 refine O.nil ?_
 refine J.block ?_
 refine J.nilRow 98 8 ?_
 refine J.loop (X := Nat × Value × List Ft) (fun ξ => ξ.1 ≤ l.length ∧ Ld.readU l ξ.1 = some ξ.2.2 ∧ ξ.2.2.length ≤ ξ.1) (fun ξ => [(0, lv), (5, ξ.2.1), (6, .int .i64 (ξ.1 : Int))]) (fun ξ => [row ξ.2.1 98 8 (ξ.2.2.map Ft.cells)]) (fun ξ => l.length - ξ.1) ⟨0, Value.slice none 0 0, []⟩ (show 0 ≤ l.length ∧ Ld.readU l 0 = some ([]) ∧ ([]).length ≤ 0 from ⟨by omega, rfl, by simp⟩) ⟨rfl, rfl, (congrArg (fun z => some (Value.int .i64 z)) (by first | rfl | omega : (0 : Int) = (0 : Int))), trivial⟩ [0] (by decide) rfl ?_
 rintro ⟨k, V, out⟩ hq1
 obtain ⟨hk, hst, hlen⟩ : k ≤ l.length ∧ Ld.readU l k = some out ∧ out.length ≤ k := hq1
 show J _ _ [(0, lv), (5, V), (6, .int .i64 (k : Int))] [row V 98 8 (out.map Ft.cells)]
 refine J.seq ?_
 refine J.seq ?_
 refine J.region ?_
 refine O.p (Pu.move rfl) rfl ?_
 refine O.p (Pu.move rfl) rfl ?_
 refine O.q (Qt.lenM Tryd.runUnderlying57 rfl (Src.ro 0 rfl)) rfl ?_
 refine O.p (Pu.lss rfl rfl) rfl ?_
 refine O.nil ?_
 refine J.cond rfl (fun h2 => ?_) (fun h2 => ?_)
 ·
  have p3 := of_decide_eq_true h2
  refine J.skip ?_
  refine J.seq ?_
  refine J.block ?_
  refine J.seq ?_
  refine J.region ?_
  refine O.p (Pu.move rfl) rfl ?_
  refine O.p (Pu.move rfl) rfl ?_
  obtain ⟨e4, he4⟩ : ∃ x_, l[k]? = some x_ := ⟨_, List.getElem?_eq_getElem (by first | omega | exact (Ld.lastZ_lt ‹_›).1 | exact (Ld.lastZ_lt ‹_›).2.1 | (simp only [List.length_append, List.length_cons, List.length_nil, List.length_set]; omega) | (simp only [List.length_set]; exact (Ld.lastZ_lt ‹_›).1) | (simp only [List.length_set]; exact (Ld.lastZ_lt ‹_›).2.1))⟩
  refine O.q (Qt.idxM Tryd.runUnderlying57 Tryd.sizeOf83 rfl (Src.ro 0 rfl) rfl (by first | omega | exact (Ld.lastZ_lt ‹_›).1 | exact (Ld.lastZ_lt ‹_›).2.1 | (simp only [List.length_append, List.length_cons, List.length_nil, List.length_set]; omega) | (simp only [List.length_set]; exact (Ld.lastZ_lt ‹_›).1) | (simp only [List.length_set]; exact (Ld.lastZ_lt ‹_›).2.1)) (by first | omega | exact (Ld.lastZ_lt ‹_›).1 | exact (Ld.lastZ_lt ‹_›).2.1 | (simp only [List.length_append, List.length_cons, List.length_nil, List.length_set]; omega) | (simp only [List.length_set]; exact (Ld.lastZ_lt ‹_›).1) | (simp only [List.length_set]; exact (Ld.lastZ_lt ‹_›).2.1))) rfl ?_
  refine O.q (Qt.ld rfl (Cel.eltM (Src.ro 0 rfl) he4) (o := (voff lv + k * 7)) (off := 0) (by omega) (Cut.agg [.int .i64 e4.kind, .int .i64 e4.tick, .int .i64 e4.s, .int .i64 e4.id, .int .i64 e4.code, .int .i64 e4.a, .int .i64 e4.b] Tryd.isAgg83 Tryd.sizeOf83 rfl rfl)) rfl ?_
  refine O.l (Lo.alloc [.int .i64 0, .int .i64 0, .int .i64 0, .int .i64 0, .int .i64 0, .int .i64 0, .int .i64 0] (by exact Tryd.zeroValue83) rfl) rfl ?_
  rintro _ _ ⟨g5, rfl, rfl⟩
  refine O.l0 (Lo.store 0 (vs := [.int .i64 e4.kind, .int .i64 e4.tick, .int .i64 e4.s, .int .i64 e4.id, .int .i64 e4.code, .int .i64 e4.a, .int .i64 e4.b]) [.int .i64 e4.kind, .int .i64 e4.tick, .int .i64 e4.s, .int .i64 e4.id, .int .i64 e4.code, .int .i64 e4.a, .int .i64 e4.b] rfl rfl rfl (by exact Tryd.sizeOf83) rfl rfl rfl rfl rfl) ?_
  rintro _ _ rfl
  refine O.nil ?_
  refine J.seq ?_
  refine J.region ?_
  refine O.p (Pu.move rfl) rfl ?_
  refine O.p (Pu.fieldAddr (off' := 2) Tryd.runUnderlying83 rfl Tryd.sizeOf3 rfl rfl rfl) rfl ?_
  refine O.q (Qt.ld rfl (Cel.var 0 rfl) (o := 0) (off := 2) rfl (Cut.one Tryd.isAgg3 rfl)) rfl ?_
  refine O.p (Pu.fieldAddr (off' := 3) Tryd.runUnderlying83 rfl Tryd.sizeOf3 rfl rfl rfl) rfl ?_
  refine O.q (Qt.ld rfl (Cel.var 0 rfl) (o := 0) (off := 3) rfl (Cut.one Tryd.isAgg3 rfl)) rfl ?_
  refine O.l (Lo.call [V, .int .i64 e4.s, .int .i64 e4.id] (by exact Tryd.call92) rfl (r41_last V out e4.s e4.id (by omega)) [] [0, 1] (by decide) rfl [var g5 [.int .i64 e4.kind, .int .i64 e4.tick, .int .i64 e4.s, .int .i64 e4.id, .int .i64 e4.code, .int .i64 e4.a, .int .i64 e4.b] 83, row V 98 8 (out.map Ft.cells)] rfl (RoOk.of 1 rfl row_rd [] (by decide) rfl RoOk.nil)) rfl ?_
  rintro _ _ ⟨_, ⟨rfl, rfl⟩, rfl⟩
  refine O.p (Pu.assign rfl) rfl ?_
  refine O.nil ?_
  refine J.seq ?_
  refine J.region ?_
  refine O.p (Pu.assign rfl) rfl ?_
  refine O.p (Pu.assign rfl) rfl ?_
  refine O.nil ?_
  refine J.seq ?_
  refine J.seq ?_
  refine J.region ?_
  refine O.p (Pu.move rfl) rfl ?_
  refine O.p (Pu.geq rfl rfl) rfl ?_
  refine O.nil ?_
  refine J.cond rfl (fun h7 => ?_) (fun h7 => ?_)
  ·
   have p8 := of_decide_eq_true h7
   refine J.drawStill Tryd.mixed (by kernel_rfl) ?_
   refine S.p (Pu.move rfl) rfl ?_
   refine S.p (Pu.move rfl) rfl ?_
   obtain ⟨e9, he9⟩ : ∃ x_, out[(Ld.lastZ out e4.s e4.id).toNat]? = some x_ := ⟨_, List.getElem?_eq_getElem (by first | omega | exact (Ld.lastZ_lt ‹_›).1 | exact (Ld.lastZ_lt ‹_›).2.1 | (simp only [List.length_append, List.length_cons, List.length_nil, List.length_set]; omega) | (simp only [List.length_set]; exact (Ld.lastZ_lt ‹_›).1) | (simp only [List.length_set]; exact (Ld.lastZ_lt ‹_›).2.1))⟩
   refine S.q (Qt.idxM Tryd.runUnderlying88 Tryd.sizeOf98 rfl (Src.row 1 rfl) rfl (by first | omega | exact (Ld.lastZ_lt ‹_›).1 | exact (Ld.lastZ_lt ‹_›).2.1 | (simp only [List.length_append, List.length_cons, List.length_nil, List.length_set]; omega) | (simp only [List.length_set]; exact (Ld.lastZ_lt ‹_›).1) | (simp only [List.length_set]; exact (Ld.lastZ_lt ‹_›).2.1)) (by first | omega | exact (Ld.lastZ_lt ‹_›).1 | exact (Ld.lastZ_lt ‹_›).2.1 | (simp only [List.length_append, List.length_cons, List.length_nil, List.length_set]; omega) | (simp only [List.length_set]; exact (Ld.lastZ_lt ‹_›).1) | (simp only [List.length_set]; exact (Ld.lastZ_lt ‹_›).2.1))) rfl ?_
   refine S.p (Pu.fieldAddr (off' := voff V + (Ld.lastZ out e4.s e4.id).toNat * 8 + 2) Tryd.runUnderlying98 rfl Tryd.sizeOf3 rfl rfl rfl) rfl ?_
   refine S.q (Qt.ld rfl (Cel.eltM (Src.row 1 rfl) he9) (o := (voff V + ((Ld.lastZ out e4.s e4.id).toNat) * 8)) (off := 2) (by omega) (Cut.one Tryd.isAgg3 rfl)) rfl ?_
   refine S.p (Pu.move rfl) rfl ?_
   refine S.p (Pu.move rfl) rfl ?_
   refine S.q (Qt.idxM Tryd.runUnderlying88 Tryd.sizeOf98 rfl (Src.row 1 rfl) rfl (by first | omega | exact (Ld.lastZ_lt ‹_›).1 | exact (Ld.lastZ_lt ‹_›).2.1 | (simp only [List.length_append, List.length_cons, List.length_nil, List.length_set]; omega) | (simp only [List.length_set]; exact (Ld.lastZ_lt ‹_›).1) | (simp only [List.length_set]; exact (Ld.lastZ_lt ‹_›).2.1)) (by first | omega | exact (Ld.lastZ_lt ‹_›).1 | exact (Ld.lastZ_lt ‹_›).2.1 | (simp only [List.length_append, List.length_cons, List.length_nil, List.length_set]; omega) | (simp only [List.length_set]; exact (Ld.lastZ_lt ‹_›).1) | (simp only [List.length_set]; exact (Ld.lastZ_lt ‹_›).2.1))) rfl ?_
   refine S.p (Pu.fieldAddr (off' := voff V + (Ld.lastZ out e4.s e4.id).toNat * 8 + 4) Tryd.runUnderlying98 rfl Tryd.sizeOf3 rfl rfl rfl) rfl ?_
   refine S.q (Qt.ld rfl (Cel.eltM (Src.row 1 rfl) he9) (o := (voff V + ((Ld.lastZ out e4.s e4.id).toNat) * 8)) (off := 4) (by omega) (Cut.one Tryd.isAgg3 rfl)) rfl ?_
   refine S.p (Pu.assign rfl) rfl ?_
   refine S.p (Pu.assign rfl) rfl ?_
   refine S.endJ ?_
   refine J.seq ?_
   refine J.region ?_
   refine O.p (Pu.move rfl) rfl ?_
   refine O.p (Pu.eql rfl rfl) rfl ?_
   refine O.p (Pu.move rfl) rfl ?_
   refine by_bool (decide (e9.state = 1)) (fun h10 => ?_) (fun h10 => ?_)
   ·
    have p11 := of_decide_eq_true h10
    refine O.gskip (t := 44) rfl rfl (no_bool (by rw [h10]; decide)) rfl rfl ?_
    refine O.gskip (t := 44) rfl rfl (no_bool (by rw [h10]; decide)) rfl rfl ?_
    refine O.p (Pu.pickT rfl h10 rfl) rfl ?_
    refine O.p (Pu.move rfl) rfl ?_
    refine O.gskip (t := 48) rfl rfl (no_bool (by decide)) rfl rfl ?_
    refine O.gskip (t := 48) rfl rfl (no_bool (by decide)) rfl rfl ?_
    refine O.p (Pu.pickT rfl rfl rfl) rfl ?_
    refine O.p (Pu.assign rfl) rfl ?_
    refine O.nil ?_
    refine J.seq ?_
    refine J.region ?_
    refine O.p (Pu.assign rfl) rfl ?_
    refine O.nil ?_
    refine J.seq ?_
    refine J.seq ?_
    refine J.region ?_
    refine O.p (Pu.fieldAddr (off' := 0) Tryd.runUnderlying83 rfl Tryd.sizeOf3 rfl rfl rfl) rfl ?_
    refine O.q (Qt.ld rfl (Cel.var 0 rfl) (o := 0) (off := 0) rfl (Cut.one Tryd.isAgg3 rfl)) rfl ?_
    refine O.nil ?_
    refine J.block ?_
    refine J.seq ?_
    refine J.region ?_
    refine O.p (Pu.eql rfl rfl) rfl ?_
    refine O.p (Pu.assign rfl) rfl ?_
    refine O.nil ?_
    refine J.cond rfl (fun h12 => ?_) (fun h12 => ?_)
    ·
     have p13 := of_decide_eq_true h12
     refine J.seq ?_
     refine J.region ?_
     refine O.p (Pu.move rfl) rfl ?_
     refine O.p (Pu.not rfl) rfl ?_
     refine O.p (Pu.assign rfl) rfl ?_
     refine O.nil ?_
     refine J.seq ?_
     refine J.region ?_
     refine O.p (Pu.fieldAddr (off' := 2) Tryd.runUnderlying83 rfl Tryd.sizeOf3 rfl rfl rfl) rfl ?_
     refine O.q (Qt.ld rfl (Cel.var 0 rfl) (o := 0) (off := 2) rfl (Cut.one Tryd.isAgg3 rfl)) rfl ?_
     refine O.p (Pu.fieldAddr (off' := 3) Tryd.runUnderlying83 rfl Tryd.sizeOf3 rfl rfl rfl) rfl ?_
     refine O.q (Qt.ld rfl (Cel.var 0 rfl) (o := 0) (off := 3) rfl (Cut.one Tryd.isAgg3 rfl)) rfl ?_
     refine O.p (Pu.fieldAddr (off' := 5) Tryd.runUnderlying83 rfl Tryd.sizeOf3 rfl rfl rfl) rfl ?_
     refine O.q (Qt.ld rfl (Cel.var 0 rfl) (o := 0) (off := 5) rfl (Cut.one Tryd.isAgg3 rfl)) rfl ?_
     refine O.p (Pu.fieldAddr (off' := 4) Tryd.runUnderlying83 rfl Tryd.sizeOf3 rfl rfl rfl) rfl ?_
     refine O.q (Qt.ld rfl (Cel.var 0 rfl) (o := 0) (off := 4) rfl (Cut.one Tryd.isAgg3 rfl)) rfl ?_
     refine O.p (Pu.fieldAddr (off' := 1) Tryd.runUnderlying83 rfl Tryd.sizeOf3 rfl rfl rfl) rfl ?_
     refine O.q (Qt.ld rfl (Cel.var 0 rfl) (o := 0) (off := 1) rfl (Cut.one Tryd.isAgg3 rfl)) rfl ?_
     refine O.p (Pu.build [(0, .int .i64 e4.s), (1, .int .i64 e4.id), (2, .int .i64 2), (3, .int .i64 e4.a), (4, .int .i64 e4.code), (5, .int .i64 e4.tick)] [.int .i64 e4.s, .int .i64 e4.id, .int .i64 2, .int .i64 e4.a, .int .i64 e4.code, .int .i64 e4.tick, .int .i64 0, .int .i64 0] #[(0, 1), (1, 1), (2, 1), (3, 1), (4, 1), (5, 1), (6, 1), (7, 1)] Tryd.runUnderlying98 Tryd.zeroValue98 (places98 Tryd.underlying98) rfl (by kernel_rfl)) rfl ?_
     refine O.l (Lo.alloc [.int .i64 0, .int .i64 0, .int .i64 0, .int .i64 0, .int .i64 0, .int .i64 0, .int .i64 0, .int .i64 0] (by exact Tryd.zeroValue98) rfl) rfl ?_
     rintro _ _ ⟨g14, rfl, rfl⟩
     refine O.l0 (Lo.store 0 (vs := [.int .i64 e4.s, .int .i64 e4.id, .int .i64 2, .int .i64 e4.a, .int .i64 e4.code, .int .i64 e4.tick, .int .i64 0, .int .i64 0]) [.int .i64 e4.s, .int .i64 e4.id, .int .i64 2, .int .i64 e4.a, .int .i64 e4.code, .int .i64 e4.tick, .int .i64 0, .int .i64 0] rfl rfl rfl (by exact Tryd.sizeOf98) rfl rfl rfl rfl rfl) ?_
     rintro _ _ rfl
     refine O.nil ?_
     refine J.seq ?_
     refine J.seq ?_
     refine J.region ?_
     refine O.p (Pu.fieldAddr (off' := 4) Tryd.runUnderlying83 rfl Tryd.sizeOf3 rfl rfl rfl) rfl ?_
     refine O.q (Qt.ld rfl (Cel.var 1 rfl) (o := 0) (off := 4) rfl (Cut.one Tryd.isAgg3 rfl)) rfl ?_
     refine O.p (Pu.neq rfl rfl) rfl ?_
     refine O.nil ?_
     refine J.cond rfl (fun h15 => ?_) (fun h15 => ?_)
     ·
      have p16 := of_decide_eq_true h15
      refine J.region ?_
      refine O.p (Pu.fieldAddr (off' := 2) Tryd.runUnderlying98 rfl Tryd.sizeOf3 rfl rfl rfl) rfl ?_
      refine O.l0 (Lo.store 0 (vs := [.int .i64 1]) [.int .i64 e4.s, .int .i64 e4.id, .int .i64 1, .int .i64 e4.a, .int .i64 e4.code, .int .i64 e4.tick, .int .i64 0, .int .i64 0] rfl rfl rfl (by exact Tryd.sizeOf3) rfl rfl rfl rfl rfl) ?_
      rintro _ _ rfl
      refine O.nil ?_
      refine J.region ?_
      refine O.p (Pu.move rfl) rfl ?_
      refine O.q (Qt.ld rfl (Cel.var 0 rfl) (o := 0) (off := 0) rfl (Cut.agg [.int .i64 e4.s, .int .i64 e4.id, .int .i64 1, .int .i64 e4.a, .int .i64 e4.code, .int .i64 e4.tick, .int .i64 0, .int .i64 0] Tryd.isAgg98 Tryd.sizeOf98 rfl rfl)) rfl ?_
      refine O.l (Lo.buildM (s := 8) Ft.cells [(⟨e4.s, e4.id, 1, e4.a, e4.code, e4.tick, 0, 0⟩ : Ft)] [(0, .agg #[.int .i64 e4.s, .int .i64 e4.id, .int .i64 1, .int .i64 e4.a, .int .i64 e4.code, .int .i64 e4.tick, .int .i64 0, .int .i64 0])] (by exact Tryd.runUnderlying88) (by exact Tryd.sizeOf98) (by exact Tryd.zeroValue98) rfl rfl rfl (by kernel_rfl) rfl rfl) rfl ?_
      rintro V17 _ rfl
      refine O.l (Lo.appendM (s := 8) 3 (by exact Tryd.underlying88) (by exact (info98).1) (by exact (info98).2.1) (by exact (info98).2.2.1) (by exact (info98).2.2.2) rfl rfl rfl rfl rfl (Src.row 0 rfl) Ft.one (by first | omega | exact (Ld.lastZ_lt ‹_›).1 | exact (Ld.lastZ_lt ‹_›).2.1 | (simp only [List.length_append, List.length_cons, List.length_nil, List.length_set]; omega) | (simp only [List.length_set]; exact (Ld.lastZ_lt ‹_›).1) | (simp only [List.length_set]; exact (Ld.lastZ_lt ‹_›).2.1)) (by first | omega | exact (Ld.lastZ_lt ‹_›).1 | exact (Ld.lastZ_lt ‹_›).2.1 | (simp only [List.length_append, List.length_cons, List.length_nil, List.length_set]; omega) | (simp only [List.length_set]; exact (Ld.lastZ_lt ‹_›).1) | (simp only [List.length_set]; exact (Ld.lastZ_lt ‹_›).2.1))) rfl ?_
      rintro V18 _ rfl
      refine O.p (Pu.assign rfl) rfl ?_
      refine O.nil ?_
      refine J.blk ?_
      refine J.seq ?_
      refine J.region ?_
      refine O.p (Pu.move rfl) rfl ?_
      refine O.p (Pu.not rfl) rfl ?_
      refine O.nil ?_
      refine J.condT rfl rfl ?_
      refine J.seq ?_
      refine J.region ?_
      refine O.p (Pu.move rfl) rfl ?_
      refine O.p (Pu.assign rfl) rfl ?_
      refine O.p (Pu.assign rfl) rfl ?_
      refine O.p (Pu.assign rfl) rfl ?_
      refine O.nil ?_
      refine J.nilRow 98 8 ?_
      exact J.ret (Fin.ret (rs := [.tmp 2, .tmp 3, .tmp 4]) rfl [_, _, _] ⟨rfl, rfl, rfl, trivial⟩ [0] (by decide) [row (Value.slice none 0 0) 98 8 (([] : List Ft).map Ft.cells)] rfl ⟨Value.slice none 0 0, (by rw [Ld.read_at hst ‹_› (by first | exact Ld.step_work ‹_› ‹_› (by omega) ‹_› | (rw [Ld.step_some ‹_› ‹_›]; simp_all [Ld.ruled, Ld.may, Ld.does, Ld.isOpen_or, Ld.there, Ld.fresh]; done) | (rw [Ld.step_none ‹_›]; simp_all [Ld.ruled, Ld.fresh]; done))]; rfl), (by rw [Ld.read_at hst ‹_› (by first | exact Ld.step_work ‹_› ‹_› (by omega) ‹_› | (rw [Ld.step_some ‹_› ‹_›]; simp_all [Ld.ruled, Ld.may, Ld.does, Ld.isOpen_or, Ld.there, Ld.fresh]; done) | (rw [Ld.step_none ‹_›]; simp_all [Ld.ruled, Ld.fresh]; done))])⟩)
     ·
      have p19 := of_decide_eq_false h15
      refine J.skip ?_
      refine J.region ?_
      refine O.p (Pu.move rfl) rfl ?_
      refine O.q (Qt.ld rfl (Cel.var 0 rfl) (o := 0) (off := 0) rfl (Cut.agg [.int .i64 e4.s, .int .i64 e4.id, .int .i64 2, .int .i64 e4.a, .int .i64 e4.code, .int .i64 e4.tick, .int .i64 0, .int .i64 0] Tryd.isAgg98 Tryd.sizeOf98 rfl rfl)) rfl ?_
      refine O.l (Lo.buildM (s := 8) Ft.cells [(⟨e4.s, e4.id, 2, e4.a, e4.code, e4.tick, 0, 0⟩ : Ft)] [(0, .agg #[.int .i64 e4.s, .int .i64 e4.id, .int .i64 2, .int .i64 e4.a, .int .i64 e4.code, .int .i64 e4.tick, .int .i64 0, .int .i64 0])] (by exact Tryd.runUnderlying88) (by exact Tryd.sizeOf98) (by exact Tryd.zeroValue98) rfl rfl rfl (by kernel_rfl) rfl rfl) rfl ?_
      rintro V20 _ rfl
      refine O.l (Lo.appendM (s := 8) 3 (by exact Tryd.underlying88) (by exact (info98).1) (by exact (info98).2.1) (by exact (info98).2.2.1) (by exact (info98).2.2.2) rfl rfl rfl rfl rfl (Src.row 0 rfl) Ft.one (by first | omega | exact (Ld.lastZ_lt ‹_›).1 | exact (Ld.lastZ_lt ‹_›).2.1 | (simp only [List.length_append, List.length_cons, List.length_nil, List.length_set]; omega) | (simp only [List.length_set]; exact (Ld.lastZ_lt ‹_›).1) | (simp only [List.length_set]; exact (Ld.lastZ_lt ‹_›).2.1)) (by first | omega | exact (Ld.lastZ_lt ‹_›).1 | exact (Ld.lastZ_lt ‹_›).2.1 | (simp only [List.length_append, List.length_cons, List.length_nil, List.length_set]; omega) | (simp only [List.length_set]; exact (Ld.lastZ_lt ‹_›).1) | (simp only [List.length_set]; exact (Ld.lastZ_lt ‹_›).2.1))) rfl ?_
      rintro V21 _ rfl
      refine O.p (Pu.assign rfl) rfl ?_
      refine O.nil ?_
      refine J.blk ?_
      refine J.seq ?_
      refine J.region ?_
      refine O.p (Pu.move rfl) rfl ?_
      refine O.p (Pu.not rfl) rfl ?_
      refine O.nil ?_
      refine J.condT rfl rfl ?_
      refine J.seq ?_
      refine J.region ?_
      refine O.p (Pu.move rfl) rfl ?_
      refine O.p (Pu.assign rfl) rfl ?_
      refine O.p (Pu.assign rfl) rfl ?_
      refine O.p (Pu.assign rfl) rfl ?_
      refine O.nil ?_
      refine J.nilRow 98 8 ?_
      exact J.ret (Fin.ret (rs := [.tmp 2, .tmp 3, .tmp 4]) rfl [_, _, _] ⟨rfl, rfl, rfl, trivial⟩ [0] (by decide) [row (Value.slice none 0 0) 98 8 (([] : List Ft).map Ft.cells)] rfl ⟨Value.slice none 0 0, (by rw [Ld.read_at hst ‹_› (by first | exact Ld.step_work ‹_› ‹_› (by omega) ‹_› | (rw [Ld.step_some ‹_› ‹_›]; simp_all [Ld.ruled, Ld.may, Ld.does, Ld.isOpen_or, Ld.there, Ld.fresh]; done) | (rw [Ld.step_none ‹_›]; simp_all [Ld.ruled, Ld.fresh]; done))]; rfl), (by rw [Ld.read_at hst ‹_› (by first | exact Ld.step_work ‹_› ‹_› (by omega) ‹_› | (rw [Ld.step_some ‹_› ‹_›]; simp_all [Ld.ruled, Ld.may, Ld.does, Ld.isOpen_or, Ld.there, Ld.fresh]; done) | (rw [Ld.step_none ‹_›]; simp_all [Ld.ruled, Ld.fresh]; done))])⟩)
    ·
     have p22 := of_decide_eq_false h12
     refine J.seq ?_
     refine J.region ?_
     refine O.p (Pu.eql rfl rfl) rfl ?_
     refine O.p (Pu.assign rfl) rfl ?_
     refine O.nil ?_
     refine J.cond rfl (fun h23 => ?_) (fun h23 => ?_)
     ·
      have p24 := of_decide_eq_true h23
      refine J.seq ?_
      refine J.region ?_
      refine O.p (Pu.move rfl) rfl ?_
      refine O.p (Pu.eql rfl rfl) rfl ?_
      refine O.p (Pu.assign rfl) rfl ?_
      refine O.nil ?_
      refine J.seq ?_
      refine J.region ?_
      refine O.p (Pu.move rfl) rfl ?_
      refine O.nil ?_
      refine J.cond rfl (fun h25 => ?_) (fun h25 => ?_)
      ·
       have p26 := of_decide_eq_true h25
       refine J.seq ?_
       refine J.region ?_
       refine O.p (Pu.move rfl) rfl ?_
       refine O.p (Pu.move rfl) rfl ?_
       refine O.q (Qt.idxM Tryd.runUnderlying88 Tryd.sizeOf98 rfl (Src.row 1 rfl) rfl (by first | omega | exact (Ld.lastZ_lt ‹_›).1 | exact (Ld.lastZ_lt ‹_›).2.1 | (simp only [List.length_append, List.length_cons, List.length_nil, List.length_set]; omega) | (simp only [List.length_set]; exact (Ld.lastZ_lt ‹_›).1) | (simp only [List.length_set]; exact (Ld.lastZ_lt ‹_›).2.1)) (by first | omega | exact (Ld.lastZ_lt ‹_›).1 | exact (Ld.lastZ_lt ‹_›).2.1 | (simp only [List.length_append, List.length_cons, List.length_nil, List.length_set]; omega) | (simp only [List.length_set]; exact (Ld.lastZ_lt ‹_›).1) | (simp only [List.length_set]; exact (Ld.lastZ_lt ‹_›).2.1))) rfl ?_
       refine O.p (Pu.fieldAddr (off' := voff V + (Ld.lastZ out e4.s e4.id).toNat * 8 + 2) Tryd.runUnderlying98 rfl Tryd.sizeOf3 rfl rfl rfl) rfl ?_
       refine O.l0 (Lo.storeM 1 (j := (Ld.lastZ out e4.s e4.id).toNat) (off := 2) (vs := [.int .i64 3]) (e := [.int .i64 e9.s, .int .i64 e9.id, .int .i64 e9.state, .int .i64 e9.level, .int .i64 e9.code, .int .i64 e9.came, .int .i64 e9.began, .int .i64 e9.ended]) ({ e9 with state := 3 }) rfl rfl rfl rfl (by omega) he9 rfl (by exact Tryd.sizeOf3) rfl rfl rfl rfl rfl) ?_
       rintro _ _ rfl
       have hs27 : (out.set (Ld.lastZ out e4.s e4.id).toNat ({ e9 with state := 3 }))[(Ld.lastZ out e4.s e4.id).toNat]? = some ({ e9 with state := 3 }) := List.getElem?_set_self (List.getElem?_eq_some_iff.1 he9).1
       refine O.nil ?_
       refine J.region ?_
       refine O.p (Pu.move rfl) rfl ?_
       refine O.p (Pu.move rfl) rfl ?_
       refine O.p (Pu.fieldAddr (off' := 1) Tryd.runUnderlying83 rfl Tryd.sizeOf3 rfl rfl rfl) rfl ?_
       refine O.q (Qt.ld rfl (Cel.var 0 rfl) (o := 0) (off := 1) rfl (Cut.one Tryd.isAgg3 rfl)) rfl ?_
       refine O.q (Qt.idxM Tryd.runUnderlying88 Tryd.sizeOf98 rfl (Src.row 1 rfl) rfl (by first | omega | exact (Ld.lastZ_lt ‹_›).1 | exact (Ld.lastZ_lt ‹_›).2.1 | (simp only [List.length_append, List.length_cons, List.length_nil, List.length_set]; omega) | (simp only [List.length_set]; exact (Ld.lastZ_lt ‹_›).1) | (simp only [List.length_set]; exact (Ld.lastZ_lt ‹_›).2.1)) (by first | omega | exact (Ld.lastZ_lt ‹_›).1 | exact (Ld.lastZ_lt ‹_›).2.1 | (simp only [List.length_append, List.length_cons, List.length_nil, List.length_set]; omega) | (simp only [List.length_set]; exact (Ld.lastZ_lt ‹_›).1) | (simp only [List.length_set]; exact (Ld.lastZ_lt ‹_›).2.1))) rfl ?_
       refine O.p (Pu.fieldAddr (off' := voff V + (Ld.lastZ out e4.s e4.id).toNat * 8 + 6) Tryd.runUnderlying98 rfl Tryd.sizeOf3 rfl rfl rfl) rfl ?_
       refine O.l0 (Lo.storeM 1 (j := (Ld.lastZ out e4.s e4.id).toNat) (off := 6) (vs := [.int .i64 e4.tick]) (e := [.int .i64 (({ e9 with state := 3 }).s), .int .i64 (({ e9 with state := 3 }).id), .int .i64 (({ e9 with state := 3 }).state), .int .i64 (({ e9 with state := 3 }).level), .int .i64 (({ e9 with state := 3 }).code), .int .i64 (({ e9 with state := 3 }).came), .int .i64 (({ e9 with state := 3 }).began), .int .i64 (({ e9 with state := 3 }).ended)]) ({ { e9 with state := 3 } with began := e4.tick }) rfl rfl rfl rfl (by omega) hs27 rfl (by exact Tryd.sizeOf3) rfl rfl rfl rfl rfl) ?_
       rintro _ _ rfl
       have hs28 : ((out.set (Ld.lastZ out e4.s e4.id).toNat ({ e9 with state := 3 })).set (Ld.lastZ out e4.s e4.id).toNat ({ { e9 with state := 3 } with began := e4.tick }))[(Ld.lastZ out e4.s e4.id).toNat]? = some ({ { e9 with state := 3 } with began := e4.tick }) := List.getElem?_set_self (List.getElem?_eq_some_iff.1 hs27).1
       refine O.nil ?_
       refine J.blk ?_
       refine J.seq ?_
       refine J.region ?_
       refine O.p (Pu.move rfl) rfl ?_
       refine O.p (Pu.not rfl) rfl ?_
       refine O.nil ?_
       refine J.condF rfl (not_of_true h25) ?_
       refine J.skip ?_
       refine J.blk ?_
       refine J.region ?_
       refine O.p (Pu.move rfl) rfl ?_
       refine O.p (Pu.add' rfl rfl (by first | omega | (simp only [List.length_append, List.length_cons, List.length_nil, List.length_set]; omega))) rfl ?_
       refine O.p (Pu.assign rfl) rfl ?_
       refine O.nil ?_
       exact J.lp ⟨k + 1, V, (out.set (Ld.lastZ out e4.s e4.id).toNat ({ e9 with state := 3 })).set (Ld.lastZ out e4.s e4.id).toNat ({ { e9 with state := 3 } with began := e4.tick })⟩ (show (k + 1) ≤ l.length ∧ Ld.readU l (k + 1) = some ((out.set (Ld.lastZ out e4.s e4.id).toNat ({ e9 with state := 3 })).set (Ld.lastZ out e4.s e4.id).toNat ({ { e9 with state := 3 } with began := e4.tick })) ∧ ((out.set (Ld.lastZ out e4.s e4.id).toNat ({ e9 with state := 3 })).set (Ld.lastZ out e4.s e4.id).toNat ({ { e9 with state := 3 } with began := e4.tick })).length ≤ (k + 1) from ⟨by omega, (by rw [Ld.readU_succ hst ‹_›]; exact (by first | exact Ld.step_work ‹_› ‹_› (by omega) ‹_› | (rw [Ld.step_some ‹_› ‹_›]; simp_all [Ld.ruled, Ld.may, Ld.does, Ld.isOpen_or, Ld.there, Ld.fresh]; done) | (rw [Ld.step_none ‹_›]; simp_all [Ld.ruled, Ld.fresh]; done))), by first | omega | (simp only [List.length_append, List.length_singleton, List.length_set]; omega)⟩) (show l.length - (k + 1) < l.length - k from (by first | omega | exact (Ld.lastZ_lt ‹_›).1 | exact (Ld.lastZ_lt ‹_›).2.1 | (simp only [List.length_append, List.length_cons, List.length_nil, List.length_set]; omega) | (simp only [List.length_set]; exact (Ld.lastZ_lt ‹_›).1) | (simp only [List.length_set]; exact (Ld.lastZ_lt ‹_›).2.1))) ⟨rfl, rfl, (congrArg (fun z => some (Value.int .i64 z)) (by first | rfl | omega : ((k : Int) + 1 : Int) = ((k + 1) : Int))), trivial⟩ [1] (by decide) rfl
      ·
       have p29 := of_decide_eq_false h25
       refine J.skip ?_
       refine J.blk ?_
       refine J.seq ?_
       refine J.region ?_
       refine O.p (Pu.move rfl) rfl ?_
       refine O.p (Pu.not rfl) rfl ?_
       refine O.nil ?_
       refine J.condT rfl (not_of_false h25) ?_
       refine J.seq ?_
       refine J.region ?_
       refine O.p (Pu.move rfl) rfl ?_
       refine O.p (Pu.assign rfl) rfl ?_
       refine O.p (Pu.assign rfl) rfl ?_
       refine O.p (Pu.assign rfl) rfl ?_
       refine O.nil ?_
       refine J.nilRow 98 8 ?_
       exact J.ret (Fin.ret (rs := [.tmp 2, .tmp 3, .tmp 4]) rfl [_, _, _] ⟨rfl, rfl, rfl, trivial⟩ [0] (by decide) [row (Value.slice none 0 0) 98 8 (([] : List Ft).map Ft.cells)] rfl ⟨Value.slice none 0 0, (by rw [Ld.read_at hst ‹_› (by first | exact Ld.step_work ‹_› ‹_› (by omega) ‹_› | (rw [Ld.step_some ‹_› ‹_›]; simp_all [Ld.ruled, Ld.may, Ld.does, Ld.isOpen_or, Ld.there, Ld.fresh]; done) | (rw [Ld.step_none ‹_›]; simp_all [Ld.ruled, Ld.fresh]; done))]; rfl), (by rw [Ld.read_at hst ‹_› (by first | exact Ld.step_work ‹_› ‹_› (by omega) ‹_› | (rw [Ld.step_some ‹_› ‹_›]; simp_all [Ld.ruled, Ld.may, Ld.does, Ld.isOpen_or, Ld.there, Ld.fresh]; done) | (rw [Ld.step_none ‹_›]; simp_all [Ld.ruled, Ld.fresh]; done))])⟩)
     ·
      have p30 := of_decide_eq_false h23
      refine J.seq ?_
      refine J.region ?_
      refine O.p (Pu.eql rfl rfl) rfl ?_
      refine O.p (Pu.assign rfl) rfl ?_
      refine O.nil ?_
      refine J.cond rfl (fun h31 => ?_) (fun h31 => ?_)
      ·
       have p32 := of_decide_eq_true h31
       refine J.seq ?_
       refine J.region ?_
       refine O.p (Pu.move rfl) rfl ?_
       refine O.p (Pu.move rfl) rfl ?_
       refine O.gq (t := 95) rfl rfl rfl rfl (Pu.qt (Pu.move rfl)) rfl ?_
       refine O.gq (t := 95) rfl rfl rfl rfl (Pu.qt (Pu.neq rfl rfl)) rfl ?_
       refine O.gq (t := 95) rfl rfl rfl rfl (Pu.qt (Pu.move rfl)) rfl ?_
       refine by_bool (decide (e9.state ≠ 1)) (fun h33 => ?_) (fun h33 => ?_)
       ·
        have p34 := of_decide_eq_true h33
        refine O.gskip (t := 98) rfl rfl (no_bool (by rw [h33]; decide)) rfl rfl ?_
        refine O.gskip (t := 98) rfl rfl (no_bool (by rw [h33]; decide)) rfl rfl ?_
        refine O.gskip (t := 98) rfl rfl (no_bool (by rw [h33]; decide)) rfl rfl ?_
        refine O.gskip (t := 98) rfl rfl (no_bool (by rw [h33]; decide)) rfl rfl ?_
        refine O.gq (t := 95) rfl rfl rfl rfl (Pu.qt (Pu.pickT rfl h33 rfl)) rfl ?_
        refine O.p (Pu.pickT rfl rfl rfl) rfl ?_
        refine O.p (Pu.assign rfl) rfl ?_
        refine O.nil ?_
        refine J.seq ?_
        refine J.region ?_
        refine O.p (Pu.move rfl) rfl ?_
        refine O.nil ?_
        refine J.condT rfl rfl ?_
        refine J.seq ?_
        refine J.region ?_
        refine O.p (Pu.move rfl) rfl ?_
        refine O.p (Pu.move rfl) rfl ?_
        refine O.q (Qt.idxM Tryd.runUnderlying88 Tryd.sizeOf98 rfl (Src.row 1 rfl) rfl (by first | omega | exact (Ld.lastZ_lt ‹_›).1 | exact (Ld.lastZ_lt ‹_›).2.1 | (simp only [List.length_append, List.length_cons, List.length_nil, List.length_set]; omega) | (simp only [List.length_set]; exact (Ld.lastZ_lt ‹_›).1) | (simp only [List.length_set]; exact (Ld.lastZ_lt ‹_›).2.1)) (by first | omega | exact (Ld.lastZ_lt ‹_›).1 | exact (Ld.lastZ_lt ‹_›).2.1 | (simp only [List.length_append, List.length_cons, List.length_nil, List.length_set]; omega) | (simp only [List.length_set]; exact (Ld.lastZ_lt ‹_›).1) | (simp only [List.length_set]; exact (Ld.lastZ_lt ‹_›).2.1))) rfl ?_
        refine O.p (Pu.fieldAddr (off' := voff V + (Ld.lastZ out e4.s e4.id).toNat * 8 + 2) Tryd.runUnderlying98 rfl Tryd.sizeOf3 rfl rfl rfl) rfl ?_
        refine O.l0 (Lo.storeM 1 (j := (Ld.lastZ out e4.s e4.id).toNat) (off := 2) (vs := [.int .i64 4]) (e := [.int .i64 e9.s, .int .i64 e9.id, .int .i64 e9.state, .int .i64 e9.level, .int .i64 e9.code, .int .i64 e9.came, .int .i64 e9.began, .int .i64 e9.ended]) ({ e9 with state := 4 }) rfl rfl rfl rfl (by omega) he9 rfl (by exact Tryd.sizeOf3) rfl rfl rfl rfl rfl) ?_
        rintro _ _ rfl
        have hs35 : (out.set (Ld.lastZ out e4.s e4.id).toNat ({ e9 with state := 4 }))[(Ld.lastZ out e4.s e4.id).toNat]? = some ({ e9 with state := 4 }) := List.getElem?_set_self (List.getElem?_eq_some_iff.1 he9).1
        refine O.nil ?_
        refine J.seq ?_
        refine J.region ?_
        refine O.p (Pu.move rfl) rfl ?_
        refine O.p (Pu.move rfl) rfl ?_
        refine O.p (Pu.fieldAddr (off' := 4) Tryd.runUnderlying83 rfl Tryd.sizeOf3 rfl rfl rfl) rfl ?_
        refine O.q (Qt.ld rfl (Cel.var 0 rfl) (o := 0) (off := 4) rfl (Cut.one Tryd.isAgg3 rfl)) rfl ?_
        refine O.q (Qt.idxM Tryd.runUnderlying88 Tryd.sizeOf98 rfl (Src.row 1 rfl) rfl (by first | omega | exact (Ld.lastZ_lt ‹_›).1 | exact (Ld.lastZ_lt ‹_›).2.1 | (simp only [List.length_append, List.length_cons, List.length_nil, List.length_set]; omega) | (simp only [List.length_set]; exact (Ld.lastZ_lt ‹_›).1) | (simp only [List.length_set]; exact (Ld.lastZ_lt ‹_›).2.1)) (by first | omega | exact (Ld.lastZ_lt ‹_›).1 | exact (Ld.lastZ_lt ‹_›).2.1 | (simp only [List.length_append, List.length_cons, List.length_nil, List.length_set]; omega) | (simp only [List.length_set]; exact (Ld.lastZ_lt ‹_›).1) | (simp only [List.length_set]; exact (Ld.lastZ_lt ‹_›).2.1))) rfl ?_
        refine O.p (Pu.fieldAddr (off' := voff V + (Ld.lastZ out e4.s e4.id).toNat * 8 + 4) Tryd.runUnderlying98 rfl Tryd.sizeOf3 rfl rfl rfl) rfl ?_
        refine O.l0 (Lo.storeM 1 (j := (Ld.lastZ out e4.s e4.id).toNat) (off := 4) (vs := [.int .i64 e4.code]) (e := [.int .i64 (({ e9 with state := 4 }).s), .int .i64 (({ e9 with state := 4 }).id), .int .i64 (({ e9 with state := 4 }).state), .int .i64 (({ e9 with state := 4 }).level), .int .i64 (({ e9 with state := 4 }).code), .int .i64 (({ e9 with state := 4 }).came), .int .i64 (({ e9 with state := 4 }).began), .int .i64 (({ e9 with state := 4 }).ended)]) ({ { e9 with state := 4 } with code := e4.code }) rfl rfl rfl rfl (by omega) hs35 rfl (by exact Tryd.sizeOf3) rfl rfl rfl rfl rfl) ?_
        rintro _ _ rfl
        have hs36 : ((out.set (Ld.lastZ out e4.s e4.id).toNat ({ e9 with state := 4 })).set (Ld.lastZ out e4.s e4.id).toNat ({ { e9 with state := 4 } with code := e4.code }))[(Ld.lastZ out e4.s e4.id).toNat]? = some ({ { e9 with state := 4 } with code := e4.code }) := List.getElem?_set_self (List.getElem?_eq_some_iff.1 hs35).1
        refine O.nil ?_
        refine J.region ?_
        refine O.p (Pu.move rfl) rfl ?_
        refine O.p (Pu.move rfl) rfl ?_
        refine O.p (Pu.fieldAddr (off' := 1) Tryd.runUnderlying83 rfl Tryd.sizeOf3 rfl rfl rfl) rfl ?_
        refine O.q (Qt.ld rfl (Cel.var 0 rfl) (o := 0) (off := 1) rfl (Cut.one Tryd.isAgg3 rfl)) rfl ?_
        refine O.q (Qt.idxM Tryd.runUnderlying88 Tryd.sizeOf98 rfl (Src.row 1 rfl) rfl (by first | omega | exact (Ld.lastZ_lt ‹_›).1 | exact (Ld.lastZ_lt ‹_›).2.1 | (simp only [List.length_append, List.length_cons, List.length_nil, List.length_set]; omega) | (simp only [List.length_set]; exact (Ld.lastZ_lt ‹_›).1) | (simp only [List.length_set]; exact (Ld.lastZ_lt ‹_›).2.1)) (by first | omega | exact (Ld.lastZ_lt ‹_›).1 | exact (Ld.lastZ_lt ‹_›).2.1 | (simp only [List.length_append, List.length_cons, List.length_nil, List.length_set]; omega) | (simp only [List.length_set]; exact (Ld.lastZ_lt ‹_›).1) | (simp only [List.length_set]; exact (Ld.lastZ_lt ‹_›).2.1))) rfl ?_
        refine O.p (Pu.fieldAddr (off' := voff V + (Ld.lastZ out e4.s e4.id).toNat * 8 + 7) Tryd.runUnderlying98 rfl Tryd.sizeOf3 rfl rfl rfl) rfl ?_
        refine O.l0 (Lo.storeM 1 (j := (Ld.lastZ out e4.s e4.id).toNat) (off := 7) (vs := [.int .i64 e4.tick]) (e := [.int .i64 (({ { e9 with state := 4 } with code := e4.code }).s), .int .i64 (({ { e9 with state := 4 } with code := e4.code }).id), .int .i64 (({ { e9 with state := 4 } with code := e4.code }).state), .int .i64 (({ { e9 with state := 4 } with code := e4.code }).level), .int .i64 (({ { e9 with state := 4 } with code := e4.code }).code), .int .i64 (({ { e9 with state := 4 } with code := e4.code }).came), .int .i64 (({ { e9 with state := 4 } with code := e4.code }).began), .int .i64 (({ { e9 with state := 4 } with code := e4.code }).ended)]) ({ { { e9 with state := 4 } with code := e4.code } with ended := e4.tick }) rfl rfl rfl rfl (by omega) hs36 rfl (by exact Tryd.sizeOf3) rfl rfl rfl rfl rfl) ?_
        rintro _ _ rfl
        have hs37 : (((out.set (Ld.lastZ out e4.s e4.id).toNat ({ e9 with state := 4 })).set (Ld.lastZ out e4.s e4.id).toNat ({ { e9 with state := 4 } with code := e4.code })).set (Ld.lastZ out e4.s e4.id).toNat ({ { { e9 with state := 4 } with code := e4.code } with ended := e4.tick }))[(Ld.lastZ out e4.s e4.id).toNat]? = some ({ { { e9 with state := 4 } with code := e4.code } with ended := e4.tick }) := List.getElem?_set_self (List.getElem?_eq_some_iff.1 hs36).1
        refine O.nil ?_
        refine J.blk ?_
        refine J.seq ?_
        refine J.region ?_
        refine O.p (Pu.move rfl) rfl ?_
        refine O.p (Pu.not rfl) rfl ?_
        refine O.nil ?_
        refine J.condF rfl rfl ?_
        refine J.skip ?_
        refine J.blk ?_
        refine J.region ?_
        refine O.p (Pu.move rfl) rfl ?_
        refine O.p (Pu.add' rfl rfl (by first | omega | (simp only [List.length_append, List.length_cons, List.length_nil, List.length_set]; omega))) rfl ?_
        refine O.p (Pu.assign rfl) rfl ?_
        refine O.nil ?_
        exact J.lp ⟨k + 1, V, ((out.set (Ld.lastZ out e4.s e4.id).toNat ({ e9 with state := 4 })).set (Ld.lastZ out e4.s e4.id).toNat ({ { e9 with state := 4 } with code := e4.code })).set (Ld.lastZ out e4.s e4.id).toNat ({ { { e9 with state := 4 } with code := e4.code } with ended := e4.tick })⟩ (show (k + 1) ≤ l.length ∧ Ld.readU l (k + 1) = some (((out.set (Ld.lastZ out e4.s e4.id).toNat ({ e9 with state := 4 })).set (Ld.lastZ out e4.s e4.id).toNat ({ { e9 with state := 4 } with code := e4.code })).set (Ld.lastZ out e4.s e4.id).toNat ({ { { e9 with state := 4 } with code := e4.code } with ended := e4.tick })) ∧ (((out.set (Ld.lastZ out e4.s e4.id).toNat ({ e9 with state := 4 })).set (Ld.lastZ out e4.s e4.id).toNat ({ { e9 with state := 4 } with code := e4.code })).set (Ld.lastZ out e4.s e4.id).toNat ({ { { e9 with state := 4 } with code := e4.code } with ended := e4.tick })).length ≤ (k + 1) from ⟨by omega, (by rw [Ld.readU_succ hst ‹_›]; exact (by first | exact Ld.step_work ‹_› ‹_› (by omega) ‹_› | (rw [Ld.step_some ‹_› ‹_›]; simp_all [Ld.ruled, Ld.may, Ld.does, Ld.isOpen_or, Ld.there, Ld.fresh]; done) | (rw [Ld.step_none ‹_›]; simp_all [Ld.ruled, Ld.fresh]; done))), by first | omega | (simp only [List.length_append, List.length_singleton, List.length_set]; omega)⟩) (show l.length - (k + 1) < l.length - k from (by first | omega | exact (Ld.lastZ_lt ‹_›).1 | exact (Ld.lastZ_lt ‹_›).2.1 | (simp only [List.length_append, List.length_cons, List.length_nil, List.length_set]; omega) | (simp only [List.length_set]; exact (Ld.lastZ_lt ‹_›).1) | (simp only [List.length_set]; exact (Ld.lastZ_lt ‹_›).2.1))) ⟨rfl, rfl, (congrArg (fun z => some (Value.int .i64 z)) (by first | rfl | omega : ((k : Int) + 1 : Int) = ((k + 1) : Int))), trivial⟩ [1] (by decide) rfl
       ·
        have p38 := of_decide_eq_false h33
        refine O.gq (t := 98) rfl rfl h33 rfl (Pu.qt (Pu.move rfl)) rfl ?_
        refine O.gq (t := 98) rfl rfl h33 rfl (Pu.qt (Pu.fieldAddr (off' := 4) Tryd.runUnderlying83 rfl Tryd.sizeOf3 rfl rfl rfl)) rfl ?_
        refine O.gq (t := 98) rfl rfl h33 rfl (Qt.ld rfl (Cel.var 0 rfl) (o := 0) (off := 4) rfl (Cut.one Tryd.isAgg3 rfl)) rfl ?_
        refine O.gq (t := 98) rfl rfl h33 rfl (Pu.qt (Pu.eql rfl rfl)) rfl ?_
        refine O.gq (t := 95) rfl rfl rfl rfl (Pu.qt (Pu.pickF rfl h33 rfl)) rfl ?_
        refine O.p (Pu.pickT rfl rfl rfl) rfl ?_
        refine O.p (Pu.assign rfl) rfl ?_
        refine O.nil ?_
        refine J.seq ?_
        refine J.region ?_
        refine O.p (Pu.move rfl) rfl ?_
        refine O.nil ?_
        refine J.cond rfl (fun h39 => ?_) (fun h39 => ?_)
        ·
         have p40 := of_decide_eq_true h39
         refine J.seq ?_
         refine J.region ?_
         refine O.p (Pu.move rfl) rfl ?_
         refine O.p (Pu.move rfl) rfl ?_
         refine O.q (Qt.idxM Tryd.runUnderlying88 Tryd.sizeOf98 rfl (Src.row 1 rfl) rfl (by first | omega | exact (Ld.lastZ_lt ‹_›).1 | exact (Ld.lastZ_lt ‹_›).2.1 | (simp only [List.length_append, List.length_cons, List.length_nil, List.length_set]; omega) | (simp only [List.length_set]; exact (Ld.lastZ_lt ‹_›).1) | (simp only [List.length_set]; exact (Ld.lastZ_lt ‹_›).2.1)) (by first | omega | exact (Ld.lastZ_lt ‹_›).1 | exact (Ld.lastZ_lt ‹_›).2.1 | (simp only [List.length_append, List.length_cons, List.length_nil, List.length_set]; omega) | (simp only [List.length_set]; exact (Ld.lastZ_lt ‹_›).1) | (simp only [List.length_set]; exact (Ld.lastZ_lt ‹_›).2.1))) rfl ?_
         refine O.p (Pu.fieldAddr (off' := voff V + (Ld.lastZ out e4.s e4.id).toNat * 8 + 2) Tryd.runUnderlying98 rfl Tryd.sizeOf3 rfl rfl rfl) rfl ?_
         refine O.l0 (Lo.storeM 1 (j := (Ld.lastZ out e4.s e4.id).toNat) (off := 2) (vs := [.int .i64 4]) (e := [.int .i64 e9.s, .int .i64 e9.id, .int .i64 e9.state, .int .i64 e9.level, .int .i64 e9.code, .int .i64 e9.came, .int .i64 e9.began, .int .i64 e9.ended]) ({ e9 with state := 4 }) rfl rfl rfl rfl (by omega) he9 rfl (by exact Tryd.sizeOf3) rfl rfl rfl rfl rfl) ?_
         rintro _ _ rfl
         have hs41 : (out.set (Ld.lastZ out e4.s e4.id).toNat ({ e9 with state := 4 }))[(Ld.lastZ out e4.s e4.id).toNat]? = some ({ e9 with state := 4 }) := List.getElem?_set_self (List.getElem?_eq_some_iff.1 he9).1
         refine O.nil ?_
         refine J.seq ?_
         refine J.region ?_
         refine O.p (Pu.move rfl) rfl ?_
         refine O.p (Pu.move rfl) rfl ?_
         refine O.p (Pu.fieldAddr (off' := 4) Tryd.runUnderlying83 rfl Tryd.sizeOf3 rfl rfl rfl) rfl ?_
         refine O.q (Qt.ld rfl (Cel.var 0 rfl) (o := 0) (off := 4) rfl (Cut.one Tryd.isAgg3 rfl)) rfl ?_
         refine O.q (Qt.idxM Tryd.runUnderlying88 Tryd.sizeOf98 rfl (Src.row 1 rfl) rfl (by first | omega | exact (Ld.lastZ_lt ‹_›).1 | exact (Ld.lastZ_lt ‹_›).2.1 | (simp only [List.length_append, List.length_cons, List.length_nil, List.length_set]; omega) | (simp only [List.length_set]; exact (Ld.lastZ_lt ‹_›).1) | (simp only [List.length_set]; exact (Ld.lastZ_lt ‹_›).2.1)) (by first | omega | exact (Ld.lastZ_lt ‹_›).1 | exact (Ld.lastZ_lt ‹_›).2.1 | (simp only [List.length_append, List.length_cons, List.length_nil, List.length_set]; omega) | (simp only [List.length_set]; exact (Ld.lastZ_lt ‹_›).1) | (simp only [List.length_set]; exact (Ld.lastZ_lt ‹_›).2.1))) rfl ?_
         refine O.p (Pu.fieldAddr (off' := voff V + (Ld.lastZ out e4.s e4.id).toNat * 8 + 4) Tryd.runUnderlying98 rfl Tryd.sizeOf3 rfl rfl rfl) rfl ?_
         refine O.l0 (Lo.storeM 1 (j := (Ld.lastZ out e4.s e4.id).toNat) (off := 4) (vs := [.int .i64 e4.code]) (e := [.int .i64 (({ e9 with state := 4 }).s), .int .i64 (({ e9 with state := 4 }).id), .int .i64 (({ e9 with state := 4 }).state), .int .i64 (({ e9 with state := 4 }).level), .int .i64 (({ e9 with state := 4 }).code), .int .i64 (({ e9 with state := 4 }).came), .int .i64 (({ e9 with state := 4 }).began), .int .i64 (({ e9 with state := 4 }).ended)]) ({ { e9 with state := 4 } with code := e4.code }) rfl rfl rfl rfl (by omega) hs41 rfl (by exact Tryd.sizeOf3) rfl rfl rfl rfl rfl) ?_
         rintro _ _ rfl
         have hs42 : ((out.set (Ld.lastZ out e4.s e4.id).toNat ({ e9 with state := 4 })).set (Ld.lastZ out e4.s e4.id).toNat ({ { e9 with state := 4 } with code := e4.code }))[(Ld.lastZ out e4.s e4.id).toNat]? = some ({ { e9 with state := 4 } with code := e4.code }) := List.getElem?_set_self (List.getElem?_eq_some_iff.1 hs41).1
         refine O.nil ?_
         refine J.region ?_
         refine O.p (Pu.move rfl) rfl ?_
         refine O.p (Pu.move rfl) rfl ?_
         refine O.p (Pu.fieldAddr (off' := 1) Tryd.runUnderlying83 rfl Tryd.sizeOf3 rfl rfl rfl) rfl ?_
         refine O.q (Qt.ld rfl (Cel.var 0 rfl) (o := 0) (off := 1) rfl (Cut.one Tryd.isAgg3 rfl)) rfl ?_
         refine O.q (Qt.idxM Tryd.runUnderlying88 Tryd.sizeOf98 rfl (Src.row 1 rfl) rfl (by first | omega | exact (Ld.lastZ_lt ‹_›).1 | exact (Ld.lastZ_lt ‹_›).2.1 | (simp only [List.length_append, List.length_cons, List.length_nil, List.length_set]; omega) | (simp only [List.length_set]; exact (Ld.lastZ_lt ‹_›).1) | (simp only [List.length_set]; exact (Ld.lastZ_lt ‹_›).2.1)) (by first | omega | exact (Ld.lastZ_lt ‹_›).1 | exact (Ld.lastZ_lt ‹_›).2.1 | (simp only [List.length_append, List.length_cons, List.length_nil, List.length_set]; omega) | (simp only [List.length_set]; exact (Ld.lastZ_lt ‹_›).1) | (simp only [List.length_set]; exact (Ld.lastZ_lt ‹_›).2.1))) rfl ?_
         refine O.p (Pu.fieldAddr (off' := voff V + (Ld.lastZ out e4.s e4.id).toNat * 8 + 7) Tryd.runUnderlying98 rfl Tryd.sizeOf3 rfl rfl rfl) rfl ?_
         refine O.l0 (Lo.storeM 1 (j := (Ld.lastZ out e4.s e4.id).toNat) (off := 7) (vs := [.int .i64 e4.tick]) (e := [.int .i64 (({ { e9 with state := 4 } with code := e4.code }).s), .int .i64 (({ { e9 with state := 4 } with code := e4.code }).id), .int .i64 (({ { e9 with state := 4 } with code := e4.code }).state), .int .i64 (({ { e9 with state := 4 } with code := e4.code }).level), .int .i64 (({ { e9 with state := 4 } with code := e4.code }).code), .int .i64 (({ { e9 with state := 4 } with code := e4.code }).came), .int .i64 (({ { e9 with state := 4 } with code := e4.code }).began), .int .i64 (({ { e9 with state := 4 } with code := e4.code }).ended)]) ({ { { e9 with state := 4 } with code := e4.code } with ended := e4.tick }) rfl rfl rfl rfl (by omega) hs42 rfl (by exact Tryd.sizeOf3) rfl rfl rfl rfl rfl) ?_
         rintro _ _ rfl
         have hs43 : (((out.set (Ld.lastZ out e4.s e4.id).toNat ({ e9 with state := 4 })).set (Ld.lastZ out e4.s e4.id).toNat ({ { e9 with state := 4 } with code := e4.code })).set (Ld.lastZ out e4.s e4.id).toNat ({ { { e9 with state := 4 } with code := e4.code } with ended := e4.tick }))[(Ld.lastZ out e4.s e4.id).toNat]? = some ({ { { e9 with state := 4 } with code := e4.code } with ended := e4.tick }) := List.getElem?_set_self (List.getElem?_eq_some_iff.1 hs42).1
         refine O.nil ?_
         refine J.blk ?_
         refine J.seq ?_
         refine J.region ?_
         refine O.p (Pu.move rfl) rfl ?_
         refine O.p (Pu.not rfl) rfl ?_
         refine O.nil ?_
         refine J.condF rfl (not_of_true h39) ?_
         refine J.skip ?_
         refine J.blk ?_
         refine J.region ?_
         refine O.p (Pu.move rfl) rfl ?_
         refine O.p (Pu.add' rfl rfl (by first | omega | (simp only [List.length_append, List.length_cons, List.length_nil, List.length_set]; omega))) rfl ?_
         refine O.p (Pu.assign rfl) rfl ?_
         refine O.nil ?_
         exact J.lp ⟨k + 1, V, ((out.set (Ld.lastZ out e4.s e4.id).toNat ({ e9 with state := 4 })).set (Ld.lastZ out e4.s e4.id).toNat ({ { e9 with state := 4 } with code := e4.code })).set (Ld.lastZ out e4.s e4.id).toNat ({ { { e9 with state := 4 } with code := e4.code } with ended := e4.tick })⟩ (show (k + 1) ≤ l.length ∧ Ld.readU l (k + 1) = some (((out.set (Ld.lastZ out e4.s e4.id).toNat ({ e9 with state := 4 })).set (Ld.lastZ out e4.s e4.id).toNat ({ { e9 with state := 4 } with code := e4.code })).set (Ld.lastZ out e4.s e4.id).toNat ({ { { e9 with state := 4 } with code := e4.code } with ended := e4.tick })) ∧ (((out.set (Ld.lastZ out e4.s e4.id).toNat ({ e9 with state := 4 })).set (Ld.lastZ out e4.s e4.id).toNat ({ { e9 with state := 4 } with code := e4.code })).set (Ld.lastZ out e4.s e4.id).toNat ({ { { e9 with state := 4 } with code := e4.code } with ended := e4.tick })).length ≤ (k + 1) from ⟨by omega, (by rw [Ld.readU_succ hst ‹_›]; exact (by first | exact Ld.step_work ‹_› ‹_› (by omega) ‹_› | (rw [Ld.step_some ‹_› ‹_›]; simp_all [Ld.ruled, Ld.may, Ld.does, Ld.isOpen_or, Ld.there, Ld.fresh]; done) | (rw [Ld.step_none ‹_›]; simp_all [Ld.ruled, Ld.fresh]; done))), by first | omega | (simp only [List.length_append, List.length_singleton, List.length_set]; omega)⟩) (show l.length - (k + 1) < l.length - k from (by first | omega | exact (Ld.lastZ_lt ‹_›).1 | exact (Ld.lastZ_lt ‹_›).2.1 | (simp only [List.length_append, List.length_cons, List.length_nil, List.length_set]; omega) | (simp only [List.length_set]; exact (Ld.lastZ_lt ‹_›).1) | (simp only [List.length_set]; exact (Ld.lastZ_lt ‹_›).2.1))) ⟨rfl, rfl, (congrArg (fun z => some (Value.int .i64 z)) (by first | rfl | omega : ((k : Int) + 1 : Int) = ((k + 1) : Int))), trivial⟩ [1] (by decide) rfl
        ·
         have p44 := of_decide_eq_false h39
         refine J.skip ?_
         refine J.blk ?_
         refine J.seq ?_
         refine J.region ?_
         refine O.p (Pu.move rfl) rfl ?_
         refine O.p (Pu.not rfl) rfl ?_
         refine O.nil ?_
         refine J.condT rfl (not_of_false h39) ?_
         refine J.seq ?_
         refine J.region ?_
         refine O.p (Pu.move rfl) rfl ?_
         refine O.p (Pu.assign rfl) rfl ?_
         refine O.p (Pu.assign rfl) rfl ?_
         refine O.p (Pu.assign rfl) rfl ?_
         refine O.nil ?_
         refine J.nilRow 98 8 ?_
         exact J.ret (Fin.ret (rs := [.tmp 2, .tmp 3, .tmp 4]) rfl [_, _, _] ⟨rfl, rfl, rfl, trivial⟩ [0] (by decide) [row (Value.slice none 0 0) 98 8 (([] : List Ft).map Ft.cells)] rfl ⟨Value.slice none 0 0, (by rw [Ld.read_at hst ‹_› (by first | exact Ld.step_work ‹_› ‹_› (by omega) ‹_› | (rw [Ld.step_some ‹_› ‹_›]; simp_all [Ld.ruled, Ld.may, Ld.does, Ld.isOpen_or, Ld.there, Ld.fresh]; done) | (rw [Ld.step_none ‹_›]; simp_all [Ld.ruled, Ld.fresh]; done))]; rfl), (by rw [Ld.read_at hst ‹_› (by first | exact Ld.step_work ‹_› ‹_› (by omega) ‹_› | (rw [Ld.step_some ‹_› ‹_›]; simp_all [Ld.ruled, Ld.may, Ld.does, Ld.isOpen_or, Ld.there, Ld.fresh]; done) | (rw [Ld.step_none ‹_›]; simp_all [Ld.ruled, Ld.fresh]; done))])⟩)
      ·
       have p45 := of_decide_eq_false h31
       refine J.seq ?_
       refine J.seq ?_
       refine J.region ?_
       refine O.p (Pu.eql rfl rfl) rfl ?_
       refine O.p (Pu.assign rfl) rfl ?_
       refine O.nil ?_
       refine J.cond rfl (fun h46 => ?_) (fun h46 => ?_)
       ·
        have p47 := of_decide_eq_true h46
        refine J.skip ?_
        refine J.condT rfl h46 ?_
        refine J.region ?_
        refine O.p (Pu.move rfl) rfl ?_
        refine O.p (Pu.eql rfl rfl) rfl ?_
        refine O.p (Pu.assign rfl) rfl ?_
        refine O.nil ?_
        refine J.blk ?_
        refine J.seq ?_
        refine J.region ?_
        refine O.p (Pu.move rfl) rfl ?_
        refine O.p (Pu.not rfl) rfl ?_
        refine O.nil ?_
        refine J.cond rfl (fun h48 => ?_) (fun h48 => ?_)
        ·
         have h49 : (decide (e9.state = 3)) = false := not_flip h48
         have p50 := of_decide_eq_false h49
         refine J.seq ?_
         refine J.region ?_
         refine O.p (Pu.move rfl) rfl ?_
         refine O.p (Pu.assign rfl) rfl ?_
         refine O.p (Pu.assign rfl) rfl ?_
         refine O.p (Pu.assign rfl) rfl ?_
         refine O.nil ?_
         refine J.nilRow 98 8 ?_
         exact J.ret (Fin.ret (rs := [.tmp 2, .tmp 3, .tmp 4]) rfl [_, _, _] ⟨rfl, rfl, rfl, trivial⟩ [0] (by decide) [row (Value.slice none 0 0) 98 8 (([] : List Ft).map Ft.cells)] rfl ⟨Value.slice none 0 0, (by rw [Ld.read_at hst ‹_› (by first | exact Ld.step_work ‹_› ‹_› (by omega) ‹_› | (rw [Ld.step_some ‹_› ‹_›]; simp_all [Ld.ruled, Ld.may, Ld.does, Ld.isOpen_or, Ld.there, Ld.fresh]; done) | (rw [Ld.step_none ‹_›]; simp_all [Ld.ruled, Ld.fresh]; done))]; rfl), (by rw [Ld.read_at hst ‹_› (by first | exact Ld.step_work ‹_› ‹_› (by omega) ‹_› | (rw [Ld.step_some ‹_› ‹_›]; simp_all [Ld.ruled, Ld.may, Ld.does, Ld.isOpen_or, Ld.there, Ld.fresh]; done) | (rw [Ld.step_none ‹_›]; simp_all [Ld.ruled, Ld.fresh]; done))])⟩)
        ·
         have h51 : (decide (e9.state = 3)) = true := not_flip h48
         have p52 := of_decide_eq_true h51
         refine J.skip ?_
         refine J.blk ?_
         refine J.region ?_
         refine O.p (Pu.move rfl) rfl ?_
         refine O.p (Pu.add' rfl rfl (by first | omega | (simp only [List.length_append, List.length_cons, List.length_nil, List.length_set]; omega))) rfl ?_
         refine O.p (Pu.assign rfl) rfl ?_
         refine O.nil ?_
         exact J.lp ⟨k + 1, V, out⟩ (show (k + 1) ≤ l.length ∧ Ld.readU l (k + 1) = some out ∧ out.length ≤ (k + 1) from ⟨by omega, (by rw [Ld.readU_succ hst ‹_›]; exact (by first | exact Ld.step_work ‹_› ‹_› (by omega) ‹_› | (rw [Ld.step_some ‹_› ‹_›]; simp_all [Ld.ruled, Ld.may, Ld.does, Ld.isOpen_or, Ld.there, Ld.fresh]; done) | (rw [Ld.step_none ‹_›]; simp_all [Ld.ruled, Ld.fresh]; done))), by first | omega | (simp only [List.length_append, List.length_singleton, List.length_set]; omega)⟩) (show l.length - (k + 1) < l.length - k from (by first | omega | exact (Ld.lastZ_lt ‹_›).1 | exact (Ld.lastZ_lt ‹_›).2.1 | (simp only [List.length_append, List.length_cons, List.length_nil, List.length_set]; omega) | (simp only [List.length_set]; exact (Ld.lastZ_lt ‹_›).1) | (simp only [List.length_set]; exact (Ld.lastZ_lt ‹_›).2.1))) ⟨rfl, rfl, (congrArg (fun z => some (Value.int .i64 z)) (by first | rfl | omega : ((k : Int) + 1 : Int) = ((k + 1) : Int))), trivial⟩ [1] (by decide) rfl
       ·
        have p53 := of_decide_eq_false h46
        refine J.region ?_
        refine O.p (Pu.eql rfl rfl) rfl ?_
        refine O.p (Pu.assign rfl) rfl ?_
        refine O.nil ?_
        refine J.cond rfl (fun h54 => ?_) (fun h54 => ?_)
        ·
         have p55 := of_decide_eq_true h54
         refine J.region ?_
         refine O.p (Pu.move rfl) rfl ?_
         refine O.p (Pu.eql rfl rfl) rfl ?_
         refine O.p (Pu.assign rfl) rfl ?_
         refine O.nil ?_
         refine J.blk ?_
         refine J.seq ?_
         refine J.region ?_
         refine O.p (Pu.move rfl) rfl ?_
         refine O.p (Pu.not rfl) rfl ?_
         refine O.nil ?_
         refine J.cond rfl (fun h56 => ?_) (fun h56 => ?_)
         ·
          have h57 : (decide (e9.state = 3)) = false := not_flip h56
          have p58 := of_decide_eq_false h57
          refine J.seq ?_
          refine J.region ?_
          refine O.p (Pu.move rfl) rfl ?_
          refine O.p (Pu.assign rfl) rfl ?_
          refine O.p (Pu.assign rfl) rfl ?_
          refine O.p (Pu.assign rfl) rfl ?_
          refine O.nil ?_
          refine J.nilRow 98 8 ?_
          exact J.ret (Fin.ret (rs := [.tmp 2, .tmp 3, .tmp 4]) rfl [_, _, _] ⟨rfl, rfl, rfl, trivial⟩ [0] (by decide) [row (Value.slice none 0 0) 98 8 (([] : List Ft).map Ft.cells)] rfl ⟨Value.slice none 0 0, (by rw [Ld.read_at hst ‹_› (by first | exact Ld.step_work ‹_› ‹_› (by omega) ‹_› | (rw [Ld.step_some ‹_› ‹_›]; simp_all [Ld.ruled, Ld.may, Ld.does, Ld.isOpen_or, Ld.there, Ld.fresh]; done) | (rw [Ld.step_none ‹_›]; simp_all [Ld.ruled, Ld.fresh]; done))]; rfl), (by rw [Ld.read_at hst ‹_› (by first | exact Ld.step_work ‹_› ‹_› (by omega) ‹_› | (rw [Ld.step_some ‹_› ‹_›]; simp_all [Ld.ruled, Ld.may, Ld.does, Ld.isOpen_or, Ld.there, Ld.fresh]; done) | (rw [Ld.step_none ‹_›]; simp_all [Ld.ruled, Ld.fresh]; done))])⟩)
         ·
          have h59 : (decide (e9.state = 3)) = true := not_flip h56
          have p60 := of_decide_eq_true h59
          refine J.skip ?_
          refine J.blk ?_
          refine J.region ?_
          refine O.p (Pu.move rfl) rfl ?_
          refine O.p (Pu.add' rfl rfl (by first | omega | (simp only [List.length_append, List.length_cons, List.length_nil, List.length_set]; omega))) rfl ?_
          refine O.p (Pu.assign rfl) rfl ?_
          refine O.nil ?_
          exact J.lp ⟨k + 1, V, out⟩ (show (k + 1) ≤ l.length ∧ Ld.readU l (k + 1) = some out ∧ out.length ≤ (k + 1) from ⟨by omega, (by rw [Ld.readU_succ hst ‹_›]; exact (by first | exact Ld.step_work ‹_› ‹_› (by omega) ‹_› | (rw [Ld.step_some ‹_› ‹_›]; simp_all [Ld.ruled, Ld.may, Ld.does, Ld.isOpen_or, Ld.there, Ld.fresh]; done) | (rw [Ld.step_none ‹_›]; simp_all [Ld.ruled, Ld.fresh]; done))), by first | omega | (simp only [List.length_append, List.length_singleton, List.length_set]; omega)⟩) (show l.length - (k + 1) < l.length - k from (by first | omega | exact (Ld.lastZ_lt ‹_›).1 | exact (Ld.lastZ_lt ‹_›).2.1 | (simp only [List.length_append, List.length_cons, List.length_nil, List.length_set]; omega) | (simp only [List.length_set]; exact (Ld.lastZ_lt ‹_›).1) | (simp only [List.length_set]; exact (Ld.lastZ_lt ‹_›).2.1))) ⟨rfl, rfl, (congrArg (fun z => some (Value.int .i64 z)) (by first | rfl | omega : ((k : Int) + 1 : Int) = ((k + 1) : Int))), trivial⟩ [1] (by decide) rfl
        ·
         have p61 := of_decide_eq_false h54
         refine J.seq ?_
         refine J.region ?_
         refine O.p (Pu.eql rfl rfl) rfl ?_
         refine O.p (Pu.assign rfl) rfl ?_
         refine O.nil ?_
         refine J.cond rfl (fun h62 => ?_) (fun h62 => ?_)
         ·
          have p63 := of_decide_eq_true h62
          refine J.seq ?_
          refine J.region ?_
          refine O.p (Pu.move rfl) rfl ?_
          refine O.p (Pu.eql rfl rfl) rfl ?_
          refine O.p (Pu.move rfl) rfl ?_
          refine by_bool (decide (e9.state = 2)) (fun h64 => ?_) (fun h64 => ?_)
          ·
           have p65 := of_decide_eq_true h64
           refine O.gskip (t := 131) rfl rfl (no_bool (by rw [h64]; decide)) rfl rfl ?_
           refine O.gskip (t := 131) rfl rfl (no_bool (by rw [h64]; decide)) rfl rfl ?_
           refine O.p (Pu.pickT rfl h64 rfl) rfl ?_
           refine O.p (Pu.assign rfl) rfl ?_
           refine O.nil ?_
           refine J.seq ?_
           refine J.region ?_
           refine O.p (Pu.move rfl) rfl ?_
           refine O.nil ?_
           refine J.condT rfl rfl ?_
           refine J.seq ?_
           refine J.region ?_
           refine O.p (Pu.move rfl) rfl ?_
           refine O.p (Pu.move rfl) rfl ?_
           refine O.q (Qt.idxM Tryd.runUnderlying88 Tryd.sizeOf98 rfl (Src.row 1 rfl) rfl (by first | omega | exact (Ld.lastZ_lt ‹_›).1 | exact (Ld.lastZ_lt ‹_›).2.1 | (simp only [List.length_append, List.length_cons, List.length_nil, List.length_set]; omega) | (simp only [List.length_set]; exact (Ld.lastZ_lt ‹_›).1) | (simp only [List.length_set]; exact (Ld.lastZ_lt ‹_›).2.1)) (by first | omega | exact (Ld.lastZ_lt ‹_›).1 | exact (Ld.lastZ_lt ‹_›).2.1 | (simp only [List.length_append, List.length_cons, List.length_nil, List.length_set]; omega) | (simp only [List.length_set]; exact (Ld.lastZ_lt ‹_›).1) | (simp only [List.length_set]; exact (Ld.lastZ_lt ‹_›).2.1))) rfl ?_
           refine O.p (Pu.fieldAddr (off' := voff V + (Ld.lastZ out e4.s e4.id).toNat * 8 + 2) Tryd.runUnderlying98 rfl Tryd.sizeOf3 rfl rfl rfl) rfl ?_
           refine O.l0 (Lo.storeM 1 (j := (Ld.lastZ out e4.s e4.id).toNat) (off := 2) (vs := [.int .i64 5]) (e := [.int .i64 e9.s, .int .i64 e9.id, .int .i64 e9.state, .int .i64 e9.level, .int .i64 e9.code, .int .i64 e9.came, .int .i64 e9.began, .int .i64 e9.ended]) ({ e9 with state := 5 }) rfl rfl rfl rfl (by omega) he9 rfl (by exact Tryd.sizeOf3) rfl rfl rfl rfl rfl) ?_
           rintro _ _ rfl
           have hs66 : (out.set (Ld.lastZ out e4.s e4.id).toNat ({ e9 with state := 5 }))[(Ld.lastZ out e4.s e4.id).toNat]? = some ({ e9 with state := 5 }) := List.getElem?_set_self (List.getElem?_eq_some_iff.1 he9).1
           refine O.nil ?_
           refine J.region ?_
           refine O.p (Pu.move rfl) rfl ?_
           refine O.p (Pu.move rfl) rfl ?_
           refine O.p (Pu.fieldAddr (off' := 1) Tryd.runUnderlying83 rfl Tryd.sizeOf3 rfl rfl rfl) rfl ?_
           refine O.q (Qt.ld rfl (Cel.var 0 rfl) (o := 0) (off := 1) rfl (Cut.one Tryd.isAgg3 rfl)) rfl ?_
           refine O.q (Qt.idxM Tryd.runUnderlying88 Tryd.sizeOf98 rfl (Src.row 1 rfl) rfl (by first | omega | exact (Ld.lastZ_lt ‹_›).1 | exact (Ld.lastZ_lt ‹_›).2.1 | (simp only [List.length_append, List.length_cons, List.length_nil, List.length_set]; omega) | (simp only [List.length_set]; exact (Ld.lastZ_lt ‹_›).1) | (simp only [List.length_set]; exact (Ld.lastZ_lt ‹_›).2.1)) (by first | omega | exact (Ld.lastZ_lt ‹_›).1 | exact (Ld.lastZ_lt ‹_›).2.1 | (simp only [List.length_append, List.length_cons, List.length_nil, List.length_set]; omega) | (simp only [List.length_set]; exact (Ld.lastZ_lt ‹_›).1) | (simp only [List.length_set]; exact (Ld.lastZ_lt ‹_›).2.1))) rfl ?_
           refine O.p (Pu.fieldAddr (off' := voff V + (Ld.lastZ out e4.s e4.id).toNat * 8 + 7) Tryd.runUnderlying98 rfl Tryd.sizeOf3 rfl rfl rfl) rfl ?_
           refine O.l0 (Lo.storeM 1 (j := (Ld.lastZ out e4.s e4.id).toNat) (off := 7) (vs := [.int .i64 e4.tick]) (e := [.int .i64 (({ e9 with state := 5 }).s), .int .i64 (({ e9 with state := 5 }).id), .int .i64 (({ e9 with state := 5 }).state), .int .i64 (({ e9 with state := 5 }).level), .int .i64 (({ e9 with state := 5 }).code), .int .i64 (({ e9 with state := 5 }).came), .int .i64 (({ e9 with state := 5 }).began), .int .i64 (({ e9 with state := 5 }).ended)]) ({ { e9 with state := 5 } with ended := e4.tick }) rfl rfl rfl rfl (by omega) hs66 rfl (by exact Tryd.sizeOf3) rfl rfl rfl rfl rfl) ?_
           rintro _ _ rfl
           have hs67 : ((out.set (Ld.lastZ out e4.s e4.id).toNat ({ e9 with state := 5 })).set (Ld.lastZ out e4.s e4.id).toNat ({ { e9 with state := 5 } with ended := e4.tick }))[(Ld.lastZ out e4.s e4.id).toNat]? = some ({ { e9 with state := 5 } with ended := e4.tick }) := List.getElem?_set_self (List.getElem?_eq_some_iff.1 hs66).1
           refine O.nil ?_
           refine J.blk ?_
           refine J.seq ?_
           refine J.region ?_
           refine O.p (Pu.move rfl) rfl ?_
           refine O.p (Pu.not rfl) rfl ?_
           refine O.nil ?_
           refine J.condF rfl rfl ?_
           refine J.skip ?_
           refine J.blk ?_
           refine J.region ?_
           refine O.p (Pu.move rfl) rfl ?_
           refine O.p (Pu.add' rfl rfl (by first | omega | (simp only [List.length_append, List.length_cons, List.length_nil, List.length_set]; omega))) rfl ?_
           refine O.p (Pu.assign rfl) rfl ?_
           refine O.nil ?_
           exact J.lp ⟨k + 1, V, (out.set (Ld.lastZ out e4.s e4.id).toNat ({ e9 with state := 5 })).set (Ld.lastZ out e4.s e4.id).toNat ({ { e9 with state := 5 } with ended := e4.tick })⟩ (show (k + 1) ≤ l.length ∧ Ld.readU l (k + 1) = some ((out.set (Ld.lastZ out e4.s e4.id).toNat ({ e9 with state := 5 })).set (Ld.lastZ out e4.s e4.id).toNat ({ { e9 with state := 5 } with ended := e4.tick })) ∧ ((out.set (Ld.lastZ out e4.s e4.id).toNat ({ e9 with state := 5 })).set (Ld.lastZ out e4.s e4.id).toNat ({ { e9 with state := 5 } with ended := e4.tick })).length ≤ (k + 1) from ⟨by omega, (by rw [Ld.readU_succ hst ‹_›]; exact (by first | exact Ld.step_work ‹_› ‹_› (by omega) ‹_› | (rw [Ld.step_some ‹_› ‹_›]; simp_all [Ld.ruled, Ld.may, Ld.does, Ld.isOpen_or, Ld.there, Ld.fresh]; done) | (rw [Ld.step_none ‹_›]; simp_all [Ld.ruled, Ld.fresh]; done))), by first | omega | (simp only [List.length_append, List.length_singleton, List.length_set]; omega)⟩) (show l.length - (k + 1) < l.length - k from (by first | omega | exact (Ld.lastZ_lt ‹_›).1 | exact (Ld.lastZ_lt ‹_›).2.1 | (simp only [List.length_append, List.length_cons, List.length_nil, List.length_set]; omega) | (simp only [List.length_set]; exact (Ld.lastZ_lt ‹_›).1) | (simp only [List.length_set]; exact (Ld.lastZ_lt ‹_›).2.1))) ⟨rfl, rfl, (congrArg (fun z => some (Value.int .i64 z)) (by first | rfl | omega : ((k : Int) + 1 : Int) = ((k + 1) : Int))), trivial⟩ [1] (by decide) rfl
          ·
           have p68 := of_decide_eq_false h64
           refine O.gq (t := 131) rfl rfl h64 rfl (Pu.qt (Pu.move rfl)) rfl ?_
           refine O.gq (t := 131) rfl rfl h64 rfl (Pu.qt (Pu.eql rfl rfl)) rfl ?_
           refine O.p (Pu.pickF rfl h64 rfl) rfl ?_
           refine O.p (Pu.assign rfl) rfl ?_
           refine O.nil ?_
           refine J.seq ?_
           refine J.region ?_
           refine O.p (Pu.move rfl) rfl ?_
           refine O.nil ?_
           refine J.cond rfl (fun h69 => ?_) (fun h69 => ?_)
           ·
            have p70 := of_decide_eq_true h69
            refine J.seq ?_
            refine J.region ?_
            refine O.p (Pu.move rfl) rfl ?_
            refine O.p (Pu.move rfl) rfl ?_
            refine O.q (Qt.idxM Tryd.runUnderlying88 Tryd.sizeOf98 rfl (Src.row 1 rfl) rfl (by first | omega | exact (Ld.lastZ_lt ‹_›).1 | exact (Ld.lastZ_lt ‹_›).2.1 | (simp only [List.length_append, List.length_cons, List.length_nil, List.length_set]; omega) | (simp only [List.length_set]; exact (Ld.lastZ_lt ‹_›).1) | (simp only [List.length_set]; exact (Ld.lastZ_lt ‹_›).2.1)) (by first | omega | exact (Ld.lastZ_lt ‹_›).1 | exact (Ld.lastZ_lt ‹_›).2.1 | (simp only [List.length_append, List.length_cons, List.length_nil, List.length_set]; omega) | (simp only [List.length_set]; exact (Ld.lastZ_lt ‹_›).1) | (simp only [List.length_set]; exact (Ld.lastZ_lt ‹_›).2.1))) rfl ?_
            refine O.p (Pu.fieldAddr (off' := voff V + (Ld.lastZ out e4.s e4.id).toNat * 8 + 2) Tryd.runUnderlying98 rfl Tryd.sizeOf3 rfl rfl rfl) rfl ?_
            refine O.l0 (Lo.storeM 1 (j := (Ld.lastZ out e4.s e4.id).toNat) (off := 2) (vs := [.int .i64 5]) (e := [.int .i64 e9.s, .int .i64 e9.id, .int .i64 e9.state, .int .i64 e9.level, .int .i64 e9.code, .int .i64 e9.came, .int .i64 e9.began, .int .i64 e9.ended]) ({ e9 with state := 5 }) rfl rfl rfl rfl (by omega) he9 rfl (by exact Tryd.sizeOf3) rfl rfl rfl rfl rfl) ?_
            rintro _ _ rfl
            have hs71 : (out.set (Ld.lastZ out e4.s e4.id).toNat ({ e9 with state := 5 }))[(Ld.lastZ out e4.s e4.id).toNat]? = some ({ e9 with state := 5 }) := List.getElem?_set_self (List.getElem?_eq_some_iff.1 he9).1
            refine O.nil ?_
            refine J.region ?_
            refine O.p (Pu.move rfl) rfl ?_
            refine O.p (Pu.move rfl) rfl ?_
            refine O.p (Pu.fieldAddr (off' := 1) Tryd.runUnderlying83 rfl Tryd.sizeOf3 rfl rfl rfl) rfl ?_
            refine O.q (Qt.ld rfl (Cel.var 0 rfl) (o := 0) (off := 1) rfl (Cut.one Tryd.isAgg3 rfl)) rfl ?_
            refine O.q (Qt.idxM Tryd.runUnderlying88 Tryd.sizeOf98 rfl (Src.row 1 rfl) rfl (by first | omega | exact (Ld.lastZ_lt ‹_›).1 | exact (Ld.lastZ_lt ‹_›).2.1 | (simp only [List.length_append, List.length_cons, List.length_nil, List.length_set]; omega) | (simp only [List.length_set]; exact (Ld.lastZ_lt ‹_›).1) | (simp only [List.length_set]; exact (Ld.lastZ_lt ‹_›).2.1)) (by first | omega | exact (Ld.lastZ_lt ‹_›).1 | exact (Ld.lastZ_lt ‹_›).2.1 | (simp only [List.length_append, List.length_cons, List.length_nil, List.length_set]; omega) | (simp only [List.length_set]; exact (Ld.lastZ_lt ‹_›).1) | (simp only [List.length_set]; exact (Ld.lastZ_lt ‹_›).2.1))) rfl ?_
            refine O.p (Pu.fieldAddr (off' := voff V + (Ld.lastZ out e4.s e4.id).toNat * 8 + 7) Tryd.runUnderlying98 rfl Tryd.sizeOf3 rfl rfl rfl) rfl ?_
            refine O.l0 (Lo.storeM 1 (j := (Ld.lastZ out e4.s e4.id).toNat) (off := 7) (vs := [.int .i64 e4.tick]) (e := [.int .i64 (({ e9 with state := 5 }).s), .int .i64 (({ e9 with state := 5 }).id), .int .i64 (({ e9 with state := 5 }).state), .int .i64 (({ e9 with state := 5 }).level), .int .i64 (({ e9 with state := 5 }).code), .int .i64 (({ e9 with state := 5 }).came), .int .i64 (({ e9 with state := 5 }).began), .int .i64 (({ e9 with state := 5 }).ended)]) ({ { e9 with state := 5 } with ended := e4.tick }) rfl rfl rfl rfl (by omega) hs71 rfl (by exact Tryd.sizeOf3) rfl rfl rfl rfl rfl) ?_
            rintro _ _ rfl
            have hs72 : ((out.set (Ld.lastZ out e4.s e4.id).toNat ({ e9 with state := 5 })).set (Ld.lastZ out e4.s e4.id).toNat ({ { e9 with state := 5 } with ended := e4.tick }))[(Ld.lastZ out e4.s e4.id).toNat]? = some ({ { e9 with state := 5 } with ended := e4.tick }) := List.getElem?_set_self (List.getElem?_eq_some_iff.1 hs71).1
            refine O.nil ?_
            refine J.blk ?_
            refine J.seq ?_
            refine J.region ?_
            refine O.p (Pu.move rfl) rfl ?_
            refine O.p (Pu.not rfl) rfl ?_
            refine O.nil ?_
            refine J.condF rfl (not_of_true h69) ?_
            refine J.skip ?_
            refine J.blk ?_
            refine J.region ?_
            refine O.p (Pu.move rfl) rfl ?_
            refine O.p (Pu.add' rfl rfl (by first | omega | (simp only [List.length_append, List.length_cons, List.length_nil, List.length_set]; omega))) rfl ?_
            refine O.p (Pu.assign rfl) rfl ?_
            refine O.nil ?_
            exact J.lp ⟨k + 1, V, (out.set (Ld.lastZ out e4.s e4.id).toNat ({ e9 with state := 5 })).set (Ld.lastZ out e4.s e4.id).toNat ({ { e9 with state := 5 } with ended := e4.tick })⟩ (show (k + 1) ≤ l.length ∧ Ld.readU l (k + 1) = some ((out.set (Ld.lastZ out e4.s e4.id).toNat ({ e9 with state := 5 })).set (Ld.lastZ out e4.s e4.id).toNat ({ { e9 with state := 5 } with ended := e4.tick })) ∧ ((out.set (Ld.lastZ out e4.s e4.id).toNat ({ e9 with state := 5 })).set (Ld.lastZ out e4.s e4.id).toNat ({ { e9 with state := 5 } with ended := e4.tick })).length ≤ (k + 1) from ⟨by omega, (by rw [Ld.readU_succ hst ‹_›]; exact (by first | exact Ld.step_work ‹_› ‹_› (by omega) ‹_› | (rw [Ld.step_some ‹_› ‹_›]; simp_all [Ld.ruled, Ld.may, Ld.does, Ld.isOpen_or, Ld.there, Ld.fresh]; done) | (rw [Ld.step_none ‹_›]; simp_all [Ld.ruled, Ld.fresh]; done))), by first | omega | (simp only [List.length_append, List.length_singleton, List.length_set]; omega)⟩) (show l.length - (k + 1) < l.length - k from (by first | omega | exact (Ld.lastZ_lt ‹_›).1 | exact (Ld.lastZ_lt ‹_›).2.1 | (simp only [List.length_append, List.length_cons, List.length_nil, List.length_set]; omega) | (simp only [List.length_set]; exact (Ld.lastZ_lt ‹_›).1) | (simp only [List.length_set]; exact (Ld.lastZ_lt ‹_›).2.1))) ⟨rfl, rfl, (congrArg (fun z => some (Value.int .i64 z)) (by first | rfl | omega : ((k : Int) + 1 : Int) = ((k + 1) : Int))), trivial⟩ [1] (by decide) rfl
           ·
            have p73 := of_decide_eq_false h69
            refine J.skip ?_
            refine J.blk ?_
            refine J.seq ?_
            refine J.region ?_
            refine O.p (Pu.move rfl) rfl ?_
            refine O.p (Pu.not rfl) rfl ?_
            refine O.nil ?_
            refine J.condT rfl (not_of_false h69) ?_
            refine J.seq ?_
            refine J.region ?_
            refine O.p (Pu.move rfl) rfl ?_
            refine O.p (Pu.assign rfl) rfl ?_
            refine O.p (Pu.assign rfl) rfl ?_
            refine O.p (Pu.assign rfl) rfl ?_
            refine O.nil ?_
            refine J.nilRow 98 8 ?_
            exact J.ret (Fin.ret (rs := [.tmp 2, .tmp 3, .tmp 4]) rfl [_, _, _] ⟨rfl, rfl, rfl, trivial⟩ [0] (by decide) [row (Value.slice none 0 0) 98 8 (([] : List Ft).map Ft.cells)] rfl ⟨Value.slice none 0 0, (by rw [Ld.read_at hst ‹_› (by first | exact Ld.step_work ‹_› ‹_› (by omega) ‹_› | (rw [Ld.step_some ‹_› ‹_›]; simp_all [Ld.ruled, Ld.may, Ld.does, Ld.isOpen_or, Ld.there, Ld.fresh]; done) | (rw [Ld.step_none ‹_›]; simp_all [Ld.ruled, Ld.fresh]; done))]; rfl), (by rw [Ld.read_at hst ‹_› (by first | exact Ld.step_work ‹_› ‹_› (by omega) ‹_› | (rw [Ld.step_some ‹_› ‹_›]; simp_all [Ld.ruled, Ld.may, Ld.does, Ld.isOpen_or, Ld.there, Ld.fresh]; done) | (rw [Ld.step_none ‹_›]; simp_all [Ld.ruled, Ld.fresh]; done))])⟩)
         ·
          have p74 := of_decide_eq_false h62
          refine J.skip ?_
          refine J.blk ?_
          refine J.seq ?_
          refine J.region ?_
          refine O.p (Pu.move rfl) rfl ?_
          refine O.p (Pu.not rfl) rfl ?_
          refine O.nil ?_
          refine J.condF rfl rfl ?_
          refine J.skip ?_
          refine J.blk ?_
          refine J.region ?_
          refine O.p (Pu.move rfl) rfl ?_
          refine O.p (Pu.add' rfl rfl (by first | omega | (simp only [List.length_append, List.length_cons, List.length_nil, List.length_set]; omega))) rfl ?_
          refine O.p (Pu.assign rfl) rfl ?_
          refine O.nil ?_
          exact J.lp ⟨k + 1, V, out⟩ (show (k + 1) ≤ l.length ∧ Ld.readU l (k + 1) = some out ∧ out.length ≤ (k + 1) from ⟨by omega, (by rw [Ld.readU_succ hst ‹_›]; exact (by first | exact Ld.step_work ‹_› ‹_› (by omega) ‹_› | (rw [Ld.step_some ‹_› ‹_›]; simp_all [Ld.ruled, Ld.may, Ld.does, Ld.isOpen_or, Ld.there, Ld.fresh]; done) | (rw [Ld.step_none ‹_›]; simp_all [Ld.ruled, Ld.fresh]; done))), by first | omega | (simp only [List.length_append, List.length_singleton, List.length_set]; omega)⟩) (show l.length - (k + 1) < l.length - k from (by first | omega | exact (Ld.lastZ_lt ‹_›).1 | exact (Ld.lastZ_lt ‹_›).2.1 | (simp only [List.length_append, List.length_cons, List.length_nil, List.length_set]; omega) | (simp only [List.length_set]; exact (Ld.lastZ_lt ‹_›).1) | (simp only [List.length_set]; exact (Ld.lastZ_lt ‹_›).2.1))) ⟨rfl, rfl, (congrArg (fun z => some (Value.int .i64 z)) (by first | rfl | omega : ((k : Int) + 1 : Int) = ((k + 1) : Int))), trivial⟩ [1] (by decide) rfl
   ·
    have p75 := of_decide_eq_false h10
    refine O.gq (t := 44) rfl rfl h10 rfl (Pu.qt (Pu.move rfl)) rfl ?_
    refine O.gq (t := 44) rfl rfl h10 rfl (Pu.qt (Pu.eql rfl rfl)) rfl ?_
    refine O.p (Pu.pickF rfl h10 rfl) rfl ?_
    refine O.p (Pu.move rfl) rfl ?_
    refine by_bool (decide (e9.state = 2)) (fun h76 => ?_) (fun h76 => ?_)
    ·
     have p77 := of_decide_eq_true h76
     refine O.gskip (t := 48) rfl rfl (no_bool (by rw [h76]; decide)) rfl rfl ?_
     refine O.gskip (t := 48) rfl rfl (no_bool (by rw [h76]; decide)) rfl rfl ?_
     refine O.p (Pu.pickT rfl h76 rfl) rfl ?_
     refine O.p (Pu.assign rfl) rfl ?_
     refine O.nil ?_
     refine J.seq ?_
     refine J.region ?_
     refine O.p (Pu.assign rfl) rfl ?_
     refine O.nil ?_
     refine J.seq ?_
     refine J.seq ?_
     refine J.region ?_
     refine O.p (Pu.fieldAddr (off' := 0) Tryd.runUnderlying83 rfl Tryd.sizeOf3 rfl rfl rfl) rfl ?_
     refine O.q (Qt.ld rfl (Cel.var 0 rfl) (o := 0) (off := 0) rfl (Cut.one Tryd.isAgg3 rfl)) rfl ?_
     refine O.nil ?_
     refine J.block ?_
     refine J.seq ?_
     refine J.region ?_
     refine O.p (Pu.eql rfl rfl) rfl ?_
     refine O.p (Pu.assign rfl) rfl ?_
     refine O.nil ?_
     refine J.cond rfl (fun h78 => ?_) (fun h78 => ?_)
     ·
      have p79 := of_decide_eq_true h78
      refine J.seq ?_
      refine J.region ?_
      refine O.p (Pu.move rfl) rfl ?_
      refine O.p (Pu.not rfl) rfl ?_
      refine O.p (Pu.assign rfl) rfl ?_
      refine O.nil ?_
      refine J.seq ?_
      refine J.region ?_
      refine O.p (Pu.fieldAddr (off' := 2) Tryd.runUnderlying83 rfl Tryd.sizeOf3 rfl rfl rfl) rfl ?_
      refine O.q (Qt.ld rfl (Cel.var 0 rfl) (o := 0) (off := 2) rfl (Cut.one Tryd.isAgg3 rfl)) rfl ?_
      refine O.p (Pu.fieldAddr (off' := 3) Tryd.runUnderlying83 rfl Tryd.sizeOf3 rfl rfl rfl) rfl ?_
      refine O.q (Qt.ld rfl (Cel.var 0 rfl) (o := 0) (off := 3) rfl (Cut.one Tryd.isAgg3 rfl)) rfl ?_
      refine O.p (Pu.fieldAddr (off' := 5) Tryd.runUnderlying83 rfl Tryd.sizeOf3 rfl rfl rfl) rfl ?_
      refine O.q (Qt.ld rfl (Cel.var 0 rfl) (o := 0) (off := 5) rfl (Cut.one Tryd.isAgg3 rfl)) rfl ?_
      refine O.p (Pu.fieldAddr (off' := 4) Tryd.runUnderlying83 rfl Tryd.sizeOf3 rfl rfl rfl) rfl ?_
      refine O.q (Qt.ld rfl (Cel.var 0 rfl) (o := 0) (off := 4) rfl (Cut.one Tryd.isAgg3 rfl)) rfl ?_
      refine O.p (Pu.fieldAddr (off' := 1) Tryd.runUnderlying83 rfl Tryd.sizeOf3 rfl rfl rfl) rfl ?_
      refine O.q (Qt.ld rfl (Cel.var 0 rfl) (o := 0) (off := 1) rfl (Cut.one Tryd.isAgg3 rfl)) rfl ?_
      refine O.p (Pu.build [(0, .int .i64 e4.s), (1, .int .i64 e4.id), (2, .int .i64 2), (3, .int .i64 e4.a), (4, .int .i64 e4.code), (5, .int .i64 e4.tick)] [.int .i64 e4.s, .int .i64 e4.id, .int .i64 2, .int .i64 e4.a, .int .i64 e4.code, .int .i64 e4.tick, .int .i64 0, .int .i64 0] #[(0, 1), (1, 1), (2, 1), (3, 1), (4, 1), (5, 1), (6, 1), (7, 1)] Tryd.runUnderlying98 Tryd.zeroValue98 (places98 Tryd.underlying98) rfl (by kernel_rfl)) rfl ?_
      refine O.l (Lo.alloc [.int .i64 0, .int .i64 0, .int .i64 0, .int .i64 0, .int .i64 0, .int .i64 0, .int .i64 0, .int .i64 0] (by exact Tryd.zeroValue98) rfl) rfl ?_
      rintro _ _ ⟨g80, rfl, rfl⟩
      refine O.l0 (Lo.store 0 (vs := [.int .i64 e4.s, .int .i64 e4.id, .int .i64 2, .int .i64 e4.a, .int .i64 e4.code, .int .i64 e4.tick, .int .i64 0, .int .i64 0]) [.int .i64 e4.s, .int .i64 e4.id, .int .i64 2, .int .i64 e4.a, .int .i64 e4.code, .int .i64 e4.tick, .int .i64 0, .int .i64 0] rfl rfl rfl (by exact Tryd.sizeOf98) rfl rfl rfl rfl rfl) ?_
      rintro _ _ rfl
      refine O.nil ?_
      refine J.seq ?_
      refine J.seq ?_
      refine J.region ?_
      refine O.p (Pu.fieldAddr (off' := 4) Tryd.runUnderlying83 rfl Tryd.sizeOf3 rfl rfl rfl) rfl ?_
      refine O.q (Qt.ld rfl (Cel.var 1 rfl) (o := 0) (off := 4) rfl (Cut.one Tryd.isAgg3 rfl)) rfl ?_
      refine O.p (Pu.neq rfl rfl) rfl ?_
      refine O.nil ?_
      refine J.cond rfl (fun h81 => ?_) (fun h81 => ?_)
      ·
       have p82 := of_decide_eq_true h81
       refine J.region ?_
       refine O.p (Pu.fieldAddr (off' := 2) Tryd.runUnderlying98 rfl Tryd.sizeOf3 rfl rfl rfl) rfl ?_
       refine O.l0 (Lo.store 0 (vs := [.int .i64 1]) [.int .i64 e4.s, .int .i64 e4.id, .int .i64 1, .int .i64 e4.a, .int .i64 e4.code, .int .i64 e4.tick, .int .i64 0, .int .i64 0] rfl rfl rfl (by exact Tryd.sizeOf3) rfl rfl rfl rfl rfl) ?_
       rintro _ _ rfl
       refine O.nil ?_
       refine J.region ?_
       refine O.p (Pu.move rfl) rfl ?_
       refine O.q (Qt.ld rfl (Cel.var 0 rfl) (o := 0) (off := 0) rfl (Cut.agg [.int .i64 e4.s, .int .i64 e4.id, .int .i64 1, .int .i64 e4.a, .int .i64 e4.code, .int .i64 e4.tick, .int .i64 0, .int .i64 0] Tryd.isAgg98 Tryd.sizeOf98 rfl rfl)) rfl ?_
       refine O.l (Lo.buildM (s := 8) Ft.cells [(⟨e4.s, e4.id, 1, e4.a, e4.code, e4.tick, 0, 0⟩ : Ft)] [(0, .agg #[.int .i64 e4.s, .int .i64 e4.id, .int .i64 1, .int .i64 e4.a, .int .i64 e4.code, .int .i64 e4.tick, .int .i64 0, .int .i64 0])] (by exact Tryd.runUnderlying88) (by exact Tryd.sizeOf98) (by exact Tryd.zeroValue98) rfl rfl rfl (by kernel_rfl) rfl rfl) rfl ?_
       rintro V83 _ rfl
       refine O.l (Lo.appendM (s := 8) 3 (by exact Tryd.underlying88) (by exact (info98).1) (by exact (info98).2.1) (by exact (info98).2.2.1) (by exact (info98).2.2.2) rfl rfl rfl rfl rfl (Src.row 0 rfl) Ft.one (by first | omega | exact (Ld.lastZ_lt ‹_›).1 | exact (Ld.lastZ_lt ‹_›).2.1 | (simp only [List.length_append, List.length_cons, List.length_nil, List.length_set]; omega) | (simp only [List.length_set]; exact (Ld.lastZ_lt ‹_›).1) | (simp only [List.length_set]; exact (Ld.lastZ_lt ‹_›).2.1)) (by first | omega | exact (Ld.lastZ_lt ‹_›).1 | exact (Ld.lastZ_lt ‹_›).2.1 | (simp only [List.length_append, List.length_cons, List.length_nil, List.length_set]; omega) | (simp only [List.length_set]; exact (Ld.lastZ_lt ‹_›).1) | (simp only [List.length_set]; exact (Ld.lastZ_lt ‹_›).2.1))) rfl ?_
       rintro V84 _ rfl
       refine O.p (Pu.assign rfl) rfl ?_
       refine O.nil ?_
       refine J.blk ?_
       refine J.seq ?_
       refine J.region ?_
       refine O.p (Pu.move rfl) rfl ?_
       refine O.p (Pu.not rfl) rfl ?_
       refine O.nil ?_
       refine J.condT rfl rfl ?_
       refine J.seq ?_
       refine J.region ?_
       refine O.p (Pu.move rfl) rfl ?_
       refine O.p (Pu.assign rfl) rfl ?_
       refine O.p (Pu.assign rfl) rfl ?_
       refine O.p (Pu.assign rfl) rfl ?_
       refine O.nil ?_
       refine J.nilRow 98 8 ?_
       exact J.ret (Fin.ret (rs := [.tmp 2, .tmp 3, .tmp 4]) rfl [_, _, _] ⟨rfl, rfl, rfl, trivial⟩ [0] (by decide) [row (Value.slice none 0 0) 98 8 (([] : List Ft).map Ft.cells)] rfl ⟨Value.slice none 0 0, (by rw [Ld.read_at hst ‹_› (by first | exact Ld.step_work ‹_› ‹_› (by omega) ‹_› | (rw [Ld.step_some ‹_› ‹_›]; simp_all [Ld.ruled, Ld.may, Ld.does, Ld.isOpen_or, Ld.there, Ld.fresh]; done) | (rw [Ld.step_none ‹_›]; simp_all [Ld.ruled, Ld.fresh]; done))]; rfl), (by rw [Ld.read_at hst ‹_› (by first | exact Ld.step_work ‹_› ‹_› (by omega) ‹_› | (rw [Ld.step_some ‹_› ‹_›]; simp_all [Ld.ruled, Ld.may, Ld.does, Ld.isOpen_or, Ld.there, Ld.fresh]; done) | (rw [Ld.step_none ‹_›]; simp_all [Ld.ruled, Ld.fresh]; done))])⟩)
      ·
       have p85 := of_decide_eq_false h81
       refine J.skip ?_
       refine J.region ?_
       refine O.p (Pu.move rfl) rfl ?_
       refine O.q (Qt.ld rfl (Cel.var 0 rfl) (o := 0) (off := 0) rfl (Cut.agg [.int .i64 e4.s, .int .i64 e4.id, .int .i64 2, .int .i64 e4.a, .int .i64 e4.code, .int .i64 e4.tick, .int .i64 0, .int .i64 0] Tryd.isAgg98 Tryd.sizeOf98 rfl rfl)) rfl ?_
       refine O.l (Lo.buildM (s := 8) Ft.cells [(⟨e4.s, e4.id, 2, e4.a, e4.code, e4.tick, 0, 0⟩ : Ft)] [(0, .agg #[.int .i64 e4.s, .int .i64 e4.id, .int .i64 2, .int .i64 e4.a, .int .i64 e4.code, .int .i64 e4.tick, .int .i64 0, .int .i64 0])] (by exact Tryd.runUnderlying88) (by exact Tryd.sizeOf98) (by exact Tryd.zeroValue98) rfl rfl rfl (by kernel_rfl) rfl rfl) rfl ?_
       rintro V86 _ rfl
       refine O.l (Lo.appendM (s := 8) 3 (by exact Tryd.underlying88) (by exact (info98).1) (by exact (info98).2.1) (by exact (info98).2.2.1) (by exact (info98).2.2.2) rfl rfl rfl rfl rfl (Src.row 0 rfl) Ft.one (by first | omega | exact (Ld.lastZ_lt ‹_›).1 | exact (Ld.lastZ_lt ‹_›).2.1 | (simp only [List.length_append, List.length_cons, List.length_nil, List.length_set]; omega) | (simp only [List.length_set]; exact (Ld.lastZ_lt ‹_›).1) | (simp only [List.length_set]; exact (Ld.lastZ_lt ‹_›).2.1)) (by first | omega | exact (Ld.lastZ_lt ‹_›).1 | exact (Ld.lastZ_lt ‹_›).2.1 | (simp only [List.length_append, List.length_cons, List.length_nil, List.length_set]; omega) | (simp only [List.length_set]; exact (Ld.lastZ_lt ‹_›).1) | (simp only [List.length_set]; exact (Ld.lastZ_lt ‹_›).2.1))) rfl ?_
       rintro V87 _ rfl
       refine O.p (Pu.assign rfl) rfl ?_
       refine O.nil ?_
       refine J.blk ?_
       refine J.seq ?_
       refine J.region ?_
       refine O.p (Pu.move rfl) rfl ?_
       refine O.p (Pu.not rfl) rfl ?_
       refine O.nil ?_
       refine J.condT rfl rfl ?_
       refine J.seq ?_
       refine J.region ?_
       refine O.p (Pu.move rfl) rfl ?_
       refine O.p (Pu.assign rfl) rfl ?_
       refine O.p (Pu.assign rfl) rfl ?_
       refine O.p (Pu.assign rfl) rfl ?_
       refine O.nil ?_
       refine J.nilRow 98 8 ?_
       exact J.ret (Fin.ret (rs := [.tmp 2, .tmp 3, .tmp 4]) rfl [_, _, _] ⟨rfl, rfl, rfl, trivial⟩ [0] (by decide) [row (Value.slice none 0 0) 98 8 (([] : List Ft).map Ft.cells)] rfl ⟨Value.slice none 0 0, (by rw [Ld.read_at hst ‹_› (by first | exact Ld.step_work ‹_› ‹_› (by omega) ‹_› | (rw [Ld.step_some ‹_› ‹_›]; simp_all [Ld.ruled, Ld.may, Ld.does, Ld.isOpen_or, Ld.there, Ld.fresh]; done) | (rw [Ld.step_none ‹_›]; simp_all [Ld.ruled, Ld.fresh]; done))]; rfl), (by rw [Ld.read_at hst ‹_› (by first | exact Ld.step_work ‹_› ‹_› (by omega) ‹_› | (rw [Ld.step_some ‹_› ‹_›]; simp_all [Ld.ruled, Ld.may, Ld.does, Ld.isOpen_or, Ld.there, Ld.fresh]; done) | (rw [Ld.step_none ‹_›]; simp_all [Ld.ruled, Ld.fresh]; done))])⟩)
     ·
      have p88 := of_decide_eq_false h78
      refine J.seq ?_
      refine J.region ?_
      refine O.p (Pu.eql rfl rfl) rfl ?_
      refine O.p (Pu.assign rfl) rfl ?_
      refine O.nil ?_
      refine J.cond rfl (fun h89 => ?_) (fun h89 => ?_)
      ·
       have p90 := of_decide_eq_true h89
       refine J.seq ?_
       refine J.region ?_
       refine O.p (Pu.move rfl) rfl ?_
       refine O.p (Pu.eql rfl rfl) rfl ?_
       refine O.p (Pu.assign rfl) rfl ?_
       refine O.nil ?_
       refine J.seq ?_
       refine J.region ?_
       refine O.p (Pu.move rfl) rfl ?_
       refine O.nil ?_
       refine J.condT rfl h76 ?_
       refine J.seq ?_
       refine J.region ?_
       refine O.p (Pu.move rfl) rfl ?_
       refine O.p (Pu.move rfl) rfl ?_
       refine O.q (Qt.idxM Tryd.runUnderlying88 Tryd.sizeOf98 rfl (Src.row 1 rfl) rfl (by first | omega | exact (Ld.lastZ_lt ‹_›).1 | exact (Ld.lastZ_lt ‹_›).2.1 | (simp only [List.length_append, List.length_cons, List.length_nil, List.length_set]; omega) | (simp only [List.length_set]; exact (Ld.lastZ_lt ‹_›).1) | (simp only [List.length_set]; exact (Ld.lastZ_lt ‹_›).2.1)) (by first | omega | exact (Ld.lastZ_lt ‹_›).1 | exact (Ld.lastZ_lt ‹_›).2.1 | (simp only [List.length_append, List.length_cons, List.length_nil, List.length_set]; omega) | (simp only [List.length_set]; exact (Ld.lastZ_lt ‹_›).1) | (simp only [List.length_set]; exact (Ld.lastZ_lt ‹_›).2.1))) rfl ?_
       refine O.p (Pu.fieldAddr (off' := voff V + (Ld.lastZ out e4.s e4.id).toNat * 8 + 2) Tryd.runUnderlying98 rfl Tryd.sizeOf3 rfl rfl rfl) rfl ?_
       refine O.l0 (Lo.storeM 1 (j := (Ld.lastZ out e4.s e4.id).toNat) (off := 2) (vs := [.int .i64 3]) (e := [.int .i64 e9.s, .int .i64 e9.id, .int .i64 e9.state, .int .i64 e9.level, .int .i64 e9.code, .int .i64 e9.came, .int .i64 e9.began, .int .i64 e9.ended]) ({ e9 with state := 3 }) rfl rfl rfl rfl (by omega) he9 rfl (by exact Tryd.sizeOf3) rfl rfl rfl rfl rfl) ?_
       rintro _ _ rfl
       have hs91 : (out.set (Ld.lastZ out e4.s e4.id).toNat ({ e9 with state := 3 }))[(Ld.lastZ out e4.s e4.id).toNat]? = some ({ e9 with state := 3 }) := List.getElem?_set_self (List.getElem?_eq_some_iff.1 he9).1
       refine O.nil ?_
       refine J.region ?_
       refine O.p (Pu.move rfl) rfl ?_
       refine O.p (Pu.move rfl) rfl ?_
       refine O.p (Pu.fieldAddr (off' := 1) Tryd.runUnderlying83 rfl Tryd.sizeOf3 rfl rfl rfl) rfl ?_
       refine O.q (Qt.ld rfl (Cel.var 0 rfl) (o := 0) (off := 1) rfl (Cut.one Tryd.isAgg3 rfl)) rfl ?_
       refine O.q (Qt.idxM Tryd.runUnderlying88 Tryd.sizeOf98 rfl (Src.row 1 rfl) rfl (by first | omega | exact (Ld.lastZ_lt ‹_›).1 | exact (Ld.lastZ_lt ‹_›).2.1 | (simp only [List.length_append, List.length_cons, List.length_nil, List.length_set]; omega) | (simp only [List.length_set]; exact (Ld.lastZ_lt ‹_›).1) | (simp only [List.length_set]; exact (Ld.lastZ_lt ‹_›).2.1)) (by first | omega | exact (Ld.lastZ_lt ‹_›).1 | exact (Ld.lastZ_lt ‹_›).2.1 | (simp only [List.length_append, List.length_cons, List.length_nil, List.length_set]; omega) | (simp only [List.length_set]; exact (Ld.lastZ_lt ‹_›).1) | (simp only [List.length_set]; exact (Ld.lastZ_lt ‹_›).2.1))) rfl ?_
       refine O.p (Pu.fieldAddr (off' := voff V + (Ld.lastZ out e4.s e4.id).toNat * 8 + 6) Tryd.runUnderlying98 rfl Tryd.sizeOf3 rfl rfl rfl) rfl ?_
       refine O.l0 (Lo.storeM 1 (j := (Ld.lastZ out e4.s e4.id).toNat) (off := 6) (vs := [.int .i64 e4.tick]) (e := [.int .i64 (({ e9 with state := 3 }).s), .int .i64 (({ e9 with state := 3 }).id), .int .i64 (({ e9 with state := 3 }).state), .int .i64 (({ e9 with state := 3 }).level), .int .i64 (({ e9 with state := 3 }).code), .int .i64 (({ e9 with state := 3 }).came), .int .i64 (({ e9 with state := 3 }).began), .int .i64 (({ e9 with state := 3 }).ended)]) ({ { e9 with state := 3 } with began := e4.tick }) rfl rfl rfl rfl (by omega) hs91 rfl (by exact Tryd.sizeOf3) rfl rfl rfl rfl rfl) ?_
       rintro _ _ rfl
       have hs92 : ((out.set (Ld.lastZ out e4.s e4.id).toNat ({ e9 with state := 3 })).set (Ld.lastZ out e4.s e4.id).toNat ({ { e9 with state := 3 } with began := e4.tick }))[(Ld.lastZ out e4.s e4.id).toNat]? = some ({ { e9 with state := 3 } with began := e4.tick }) := List.getElem?_set_self (List.getElem?_eq_some_iff.1 hs91).1
       refine O.nil ?_
       refine J.blk ?_
       refine J.seq ?_
       refine J.region ?_
       refine O.p (Pu.move rfl) rfl ?_
       refine O.p (Pu.not rfl) rfl ?_
       refine O.nil ?_
       refine J.condF rfl (not_of_true h76) ?_
       refine J.skip ?_
       refine J.blk ?_
       refine J.region ?_
       refine O.p (Pu.move rfl) rfl ?_
       refine O.p (Pu.add' rfl rfl (by first | omega | (simp only [List.length_append, List.length_cons, List.length_nil, List.length_set]; omega))) rfl ?_
       refine O.p (Pu.assign rfl) rfl ?_
       refine O.nil ?_
       exact J.lp ⟨k + 1, V, (out.set (Ld.lastZ out e4.s e4.id).toNat ({ e9 with state := 3 })).set (Ld.lastZ out e4.s e4.id).toNat ({ { e9 with state := 3 } with began := e4.tick })⟩ (show (k + 1) ≤ l.length ∧ Ld.readU l (k + 1) = some ((out.set (Ld.lastZ out e4.s e4.id).toNat ({ e9 with state := 3 })).set (Ld.lastZ out e4.s e4.id).toNat ({ { e9 with state := 3 } with began := e4.tick })) ∧ ((out.set (Ld.lastZ out e4.s e4.id).toNat ({ e9 with state := 3 })).set (Ld.lastZ out e4.s e4.id).toNat ({ { e9 with state := 3 } with began := e4.tick })).length ≤ (k + 1) from ⟨by omega, (by rw [Ld.readU_succ hst ‹_›]; exact (by first | exact Ld.step_work ‹_› ‹_› (by omega) ‹_› | (rw [Ld.step_some ‹_› ‹_›]; simp_all [Ld.ruled, Ld.may, Ld.does, Ld.isOpen_or, Ld.there, Ld.fresh]; done) | (rw [Ld.step_none ‹_›]; simp_all [Ld.ruled, Ld.fresh]; done))), by first | omega | (simp only [List.length_append, List.length_singleton, List.length_set]; omega)⟩) (show l.length - (k + 1) < l.length - k from (by first | omega | exact (Ld.lastZ_lt ‹_›).1 | exact (Ld.lastZ_lt ‹_›).2.1 | (simp only [List.length_append, List.length_cons, List.length_nil, List.length_set]; omega) | (simp only [List.length_set]; exact (Ld.lastZ_lt ‹_›).1) | (simp only [List.length_set]; exact (Ld.lastZ_lt ‹_›).2.1))) ⟨rfl, rfl, (congrArg (fun z => some (Value.int .i64 z)) (by first | rfl | omega : ((k : Int) + 1 : Int) = ((k + 1) : Int))), trivial⟩ [1] (by decide) rfl
      ·
       have p93 := of_decide_eq_false h89
       refine J.seq ?_
       refine J.region ?_
       refine O.p (Pu.eql rfl rfl) rfl ?_
       refine O.p (Pu.assign rfl) rfl ?_
       refine O.nil ?_
       refine J.cond rfl (fun h94 => ?_) (fun h94 => ?_)
       ·
        have p95 := of_decide_eq_true h94
        refine J.seq ?_
        refine J.region ?_
        refine O.p (Pu.move rfl) rfl ?_
        refine O.p (Pu.move rfl) rfl ?_
        refine O.gq (t := 95) rfl rfl rfl rfl (Pu.qt (Pu.move rfl)) rfl ?_
        refine O.gq (t := 95) rfl rfl rfl rfl (Pu.qt (Pu.neq rfl rfl)) rfl ?_
        refine O.gq (t := 95) rfl rfl rfl rfl (Pu.qt (Pu.move rfl)) rfl ?_
        refine by_bool (decide (e9.state ≠ 1)) (fun h96 => ?_) (fun h96 => ?_)
        ·
         have p97 := of_decide_eq_true h96
         refine O.gskip (t := 98) rfl rfl (no_bool (by rw [h96]; decide)) rfl rfl ?_
         refine O.gskip (t := 98) rfl rfl (no_bool (by rw [h96]; decide)) rfl rfl ?_
         refine O.gskip (t := 98) rfl rfl (no_bool (by rw [h96]; decide)) rfl rfl ?_
         refine O.gskip (t := 98) rfl rfl (no_bool (by rw [h96]; decide)) rfl rfl ?_
         refine O.gq (t := 95) rfl rfl rfl rfl (Pu.qt (Pu.pickT rfl h96 rfl)) rfl ?_
         refine O.p (Pu.pickT rfl rfl rfl) rfl ?_
         refine O.p (Pu.assign rfl) rfl ?_
         refine O.nil ?_
         refine J.seq ?_
         refine J.region ?_
         refine O.p (Pu.move rfl) rfl ?_
         refine O.nil ?_
         refine J.condT rfl rfl ?_
         refine J.seq ?_
         refine J.region ?_
         refine O.p (Pu.move rfl) rfl ?_
         refine O.p (Pu.move rfl) rfl ?_
         refine O.q (Qt.idxM Tryd.runUnderlying88 Tryd.sizeOf98 rfl (Src.row 1 rfl) rfl (by first | omega | exact (Ld.lastZ_lt ‹_›).1 | exact (Ld.lastZ_lt ‹_›).2.1 | (simp only [List.length_append, List.length_cons, List.length_nil, List.length_set]; omega) | (simp only [List.length_set]; exact (Ld.lastZ_lt ‹_›).1) | (simp only [List.length_set]; exact (Ld.lastZ_lt ‹_›).2.1)) (by first | omega | exact (Ld.lastZ_lt ‹_›).1 | exact (Ld.lastZ_lt ‹_›).2.1 | (simp only [List.length_append, List.length_cons, List.length_nil, List.length_set]; omega) | (simp only [List.length_set]; exact (Ld.lastZ_lt ‹_›).1) | (simp only [List.length_set]; exact (Ld.lastZ_lt ‹_›).2.1))) rfl ?_
         refine O.p (Pu.fieldAddr (off' := voff V + (Ld.lastZ out e4.s e4.id).toNat * 8 + 2) Tryd.runUnderlying98 rfl Tryd.sizeOf3 rfl rfl rfl) rfl ?_
         refine O.l0 (Lo.storeM 1 (j := (Ld.lastZ out e4.s e4.id).toNat) (off := 2) (vs := [.int .i64 4]) (e := [.int .i64 e9.s, .int .i64 e9.id, .int .i64 e9.state, .int .i64 e9.level, .int .i64 e9.code, .int .i64 e9.came, .int .i64 e9.began, .int .i64 e9.ended]) ({ e9 with state := 4 }) rfl rfl rfl rfl (by omega) he9 rfl (by exact Tryd.sizeOf3) rfl rfl rfl rfl rfl) ?_
         rintro _ _ rfl
         have hs98 : (out.set (Ld.lastZ out e4.s e4.id).toNat ({ e9 with state := 4 }))[(Ld.lastZ out e4.s e4.id).toNat]? = some ({ e9 with state := 4 }) := List.getElem?_set_self (List.getElem?_eq_some_iff.1 he9).1
         refine O.nil ?_
         refine J.seq ?_
         refine J.region ?_
         refine O.p (Pu.move rfl) rfl ?_
         refine O.p (Pu.move rfl) rfl ?_
         refine O.p (Pu.fieldAddr (off' := 4) Tryd.runUnderlying83 rfl Tryd.sizeOf3 rfl rfl rfl) rfl ?_
         refine O.q (Qt.ld rfl (Cel.var 0 rfl) (o := 0) (off := 4) rfl (Cut.one Tryd.isAgg3 rfl)) rfl ?_
         refine O.q (Qt.idxM Tryd.runUnderlying88 Tryd.sizeOf98 rfl (Src.row 1 rfl) rfl (by first | omega | exact (Ld.lastZ_lt ‹_›).1 | exact (Ld.lastZ_lt ‹_›).2.1 | (simp only [List.length_append, List.length_cons, List.length_nil, List.length_set]; omega) | (simp only [List.length_set]; exact (Ld.lastZ_lt ‹_›).1) | (simp only [List.length_set]; exact (Ld.lastZ_lt ‹_›).2.1)) (by first | omega | exact (Ld.lastZ_lt ‹_›).1 | exact (Ld.lastZ_lt ‹_›).2.1 | (simp only [List.length_append, List.length_cons, List.length_nil, List.length_set]; omega) | (simp only [List.length_set]; exact (Ld.lastZ_lt ‹_›).1) | (simp only [List.length_set]; exact (Ld.lastZ_lt ‹_›).2.1))) rfl ?_
         refine O.p (Pu.fieldAddr (off' := voff V + (Ld.lastZ out e4.s e4.id).toNat * 8 + 4) Tryd.runUnderlying98 rfl Tryd.sizeOf3 rfl rfl rfl) rfl ?_
         refine O.l0 (Lo.storeM 1 (j := (Ld.lastZ out e4.s e4.id).toNat) (off := 4) (vs := [.int .i64 e4.code]) (e := [.int .i64 (({ e9 with state := 4 }).s), .int .i64 (({ e9 with state := 4 }).id), .int .i64 (({ e9 with state := 4 }).state), .int .i64 (({ e9 with state := 4 }).level), .int .i64 (({ e9 with state := 4 }).code), .int .i64 (({ e9 with state := 4 }).came), .int .i64 (({ e9 with state := 4 }).began), .int .i64 (({ e9 with state := 4 }).ended)]) ({ { e9 with state := 4 } with code := e4.code }) rfl rfl rfl rfl (by omega) hs98 rfl (by exact Tryd.sizeOf3) rfl rfl rfl rfl rfl) ?_
         rintro _ _ rfl
         have hs99 : ((out.set (Ld.lastZ out e4.s e4.id).toNat ({ e9 with state := 4 })).set (Ld.lastZ out e4.s e4.id).toNat ({ { e9 with state := 4 } with code := e4.code }))[(Ld.lastZ out e4.s e4.id).toNat]? = some ({ { e9 with state := 4 } with code := e4.code }) := List.getElem?_set_self (List.getElem?_eq_some_iff.1 hs98).1
         refine O.nil ?_
         refine J.region ?_
         refine O.p (Pu.move rfl) rfl ?_
         refine O.p (Pu.move rfl) rfl ?_
         refine O.p (Pu.fieldAddr (off' := 1) Tryd.runUnderlying83 rfl Tryd.sizeOf3 rfl rfl rfl) rfl ?_
         refine O.q (Qt.ld rfl (Cel.var 0 rfl) (o := 0) (off := 1) rfl (Cut.one Tryd.isAgg3 rfl)) rfl ?_
         refine O.q (Qt.idxM Tryd.runUnderlying88 Tryd.sizeOf98 rfl (Src.row 1 rfl) rfl (by first | omega | exact (Ld.lastZ_lt ‹_›).1 | exact (Ld.lastZ_lt ‹_›).2.1 | (simp only [List.length_append, List.length_cons, List.length_nil, List.length_set]; omega) | (simp only [List.length_set]; exact (Ld.lastZ_lt ‹_›).1) | (simp only [List.length_set]; exact (Ld.lastZ_lt ‹_›).2.1)) (by first | omega | exact (Ld.lastZ_lt ‹_›).1 | exact (Ld.lastZ_lt ‹_›).2.1 | (simp only [List.length_append, List.length_cons, List.length_nil, List.length_set]; omega) | (simp only [List.length_set]; exact (Ld.lastZ_lt ‹_›).1) | (simp only [List.length_set]; exact (Ld.lastZ_lt ‹_›).2.1))) rfl ?_
         refine O.p (Pu.fieldAddr (off' := voff V + (Ld.lastZ out e4.s e4.id).toNat * 8 + 7) Tryd.runUnderlying98 rfl Tryd.sizeOf3 rfl rfl rfl) rfl ?_
         refine O.l0 (Lo.storeM 1 (j := (Ld.lastZ out e4.s e4.id).toNat) (off := 7) (vs := [.int .i64 e4.tick]) (e := [.int .i64 (({ { e9 with state := 4 } with code := e4.code }).s), .int .i64 (({ { e9 with state := 4 } with code := e4.code }).id), .int .i64 (({ { e9 with state := 4 } with code := e4.code }).state), .int .i64 (({ { e9 with state := 4 } with code := e4.code }).level), .int .i64 (({ { e9 with state := 4 } with code := e4.code }).code), .int .i64 (({ { e9 with state := 4 } with code := e4.code }).came), .int .i64 (({ { e9 with state := 4 } with code := e4.code }).began), .int .i64 (({ { e9 with state := 4 } with code := e4.code }).ended)]) ({ { { e9 with state := 4 } with code := e4.code } with ended := e4.tick }) rfl rfl rfl rfl (by omega) hs99 rfl (by exact Tryd.sizeOf3) rfl rfl rfl rfl rfl) ?_
         rintro _ _ rfl
         have hs100 : (((out.set (Ld.lastZ out e4.s e4.id).toNat ({ e9 with state := 4 })).set (Ld.lastZ out e4.s e4.id).toNat ({ { e9 with state := 4 } with code := e4.code })).set (Ld.lastZ out e4.s e4.id).toNat ({ { { e9 with state := 4 } with code := e4.code } with ended := e4.tick }))[(Ld.lastZ out e4.s e4.id).toNat]? = some ({ { { e9 with state := 4 } with code := e4.code } with ended := e4.tick }) := List.getElem?_set_self (List.getElem?_eq_some_iff.1 hs99).1
         refine O.nil ?_
         refine J.blk ?_
         refine J.seq ?_
         refine J.region ?_
         refine O.p (Pu.move rfl) rfl ?_
         refine O.p (Pu.not rfl) rfl ?_
         refine O.nil ?_
         refine J.condF rfl rfl ?_
         refine J.skip ?_
         refine J.blk ?_
         refine J.region ?_
         refine O.p (Pu.move rfl) rfl ?_
         refine O.p (Pu.add' rfl rfl (by first | omega | (simp only [List.length_append, List.length_cons, List.length_nil, List.length_set]; omega))) rfl ?_
         refine O.p (Pu.assign rfl) rfl ?_
         refine O.nil ?_
         exact J.lp ⟨k + 1, V, ((out.set (Ld.lastZ out e4.s e4.id).toNat ({ e9 with state := 4 })).set (Ld.lastZ out e4.s e4.id).toNat ({ { e9 with state := 4 } with code := e4.code })).set (Ld.lastZ out e4.s e4.id).toNat ({ { { e9 with state := 4 } with code := e4.code } with ended := e4.tick })⟩ (show (k + 1) ≤ l.length ∧ Ld.readU l (k + 1) = some (((out.set (Ld.lastZ out e4.s e4.id).toNat ({ e9 with state := 4 })).set (Ld.lastZ out e4.s e4.id).toNat ({ { e9 with state := 4 } with code := e4.code })).set (Ld.lastZ out e4.s e4.id).toNat ({ { { e9 with state := 4 } with code := e4.code } with ended := e4.tick })) ∧ (((out.set (Ld.lastZ out e4.s e4.id).toNat ({ e9 with state := 4 })).set (Ld.lastZ out e4.s e4.id).toNat ({ { e9 with state := 4 } with code := e4.code })).set (Ld.lastZ out e4.s e4.id).toNat ({ { { e9 with state := 4 } with code := e4.code } with ended := e4.tick })).length ≤ (k + 1) from ⟨by omega, (by rw [Ld.readU_succ hst ‹_›]; exact (by first | exact Ld.step_work ‹_› ‹_› (by omega) ‹_› | (rw [Ld.step_some ‹_› ‹_›]; simp_all [Ld.ruled, Ld.may, Ld.does, Ld.isOpen_or, Ld.there, Ld.fresh]; done) | (rw [Ld.step_none ‹_›]; simp_all [Ld.ruled, Ld.fresh]; done))), by first | omega | (simp only [List.length_append, List.length_singleton, List.length_set]; omega)⟩) (show l.length - (k + 1) < l.length - k from (by first | omega | exact (Ld.lastZ_lt ‹_›).1 | exact (Ld.lastZ_lt ‹_›).2.1 | (simp only [List.length_append, List.length_cons, List.length_nil, List.length_set]; omega) | (simp only [List.length_set]; exact (Ld.lastZ_lt ‹_›).1) | (simp only [List.length_set]; exact (Ld.lastZ_lt ‹_›).2.1))) ⟨rfl, rfl, (congrArg (fun z => some (Value.int .i64 z)) (by first | rfl | omega : ((k : Int) + 1 : Int) = ((k + 1) : Int))), trivial⟩ [1] (by decide) rfl
        ·
         have p101 := of_decide_eq_false h96
         refine O.gq (t := 98) rfl rfl h96 rfl (Pu.qt (Pu.move rfl)) rfl ?_
         refine O.gq (t := 98) rfl rfl h96 rfl (Pu.qt (Pu.fieldAddr (off' := 4) Tryd.runUnderlying83 rfl Tryd.sizeOf3 rfl rfl rfl)) rfl ?_
         refine O.gq (t := 98) rfl rfl h96 rfl (Qt.ld rfl (Cel.var 0 rfl) (o := 0) (off := 4) rfl (Cut.one Tryd.isAgg3 rfl)) rfl ?_
         refine O.gq (t := 98) rfl rfl h96 rfl (Pu.qt (Pu.eql rfl rfl)) rfl ?_
         refine O.gq (t := 95) rfl rfl rfl rfl (Pu.qt (Pu.pickF rfl h96 rfl)) rfl ?_
         refine O.p (Pu.pickT rfl rfl rfl) rfl ?_
         refine O.p (Pu.assign rfl) rfl ?_
         refine O.nil ?_
         refine J.seq ?_
         refine J.region ?_
         refine O.p (Pu.move rfl) rfl ?_
         refine O.nil ?_
         refine J.cond rfl (fun h102 => ?_) (fun h102 => ?_)
         ·
          have p103 := of_decide_eq_true h102
          refine J.seq ?_
          refine J.region ?_
          refine O.p (Pu.move rfl) rfl ?_
          refine O.p (Pu.move rfl) rfl ?_
          refine O.q (Qt.idxM Tryd.runUnderlying88 Tryd.sizeOf98 rfl (Src.row 1 rfl) rfl (by first | omega | exact (Ld.lastZ_lt ‹_›).1 | exact (Ld.lastZ_lt ‹_›).2.1 | (simp only [List.length_append, List.length_cons, List.length_nil, List.length_set]; omega) | (simp only [List.length_set]; exact (Ld.lastZ_lt ‹_›).1) | (simp only [List.length_set]; exact (Ld.lastZ_lt ‹_›).2.1)) (by first | omega | exact (Ld.lastZ_lt ‹_›).1 | exact (Ld.lastZ_lt ‹_›).2.1 | (simp only [List.length_append, List.length_cons, List.length_nil, List.length_set]; omega) | (simp only [List.length_set]; exact (Ld.lastZ_lt ‹_›).1) | (simp only [List.length_set]; exact (Ld.lastZ_lt ‹_›).2.1))) rfl ?_
          refine O.p (Pu.fieldAddr (off' := voff V + (Ld.lastZ out e4.s e4.id).toNat * 8 + 2) Tryd.runUnderlying98 rfl Tryd.sizeOf3 rfl rfl rfl) rfl ?_
          refine O.l0 (Lo.storeM 1 (j := (Ld.lastZ out e4.s e4.id).toNat) (off := 2) (vs := [.int .i64 4]) (e := [.int .i64 e9.s, .int .i64 e9.id, .int .i64 e9.state, .int .i64 e9.level, .int .i64 e9.code, .int .i64 e9.came, .int .i64 e9.began, .int .i64 e9.ended]) ({ e9 with state := 4 }) rfl rfl rfl rfl (by omega) he9 rfl (by exact Tryd.sizeOf3) rfl rfl rfl rfl rfl) ?_
          rintro _ _ rfl
          have hs104 : (out.set (Ld.lastZ out e4.s e4.id).toNat ({ e9 with state := 4 }))[(Ld.lastZ out e4.s e4.id).toNat]? = some ({ e9 with state := 4 }) := List.getElem?_set_self (List.getElem?_eq_some_iff.1 he9).1
          refine O.nil ?_
          refine J.seq ?_
          refine J.region ?_
          refine O.p (Pu.move rfl) rfl ?_
          refine O.p (Pu.move rfl) rfl ?_
          refine O.p (Pu.fieldAddr (off' := 4) Tryd.runUnderlying83 rfl Tryd.sizeOf3 rfl rfl rfl) rfl ?_
          refine O.q (Qt.ld rfl (Cel.var 0 rfl) (o := 0) (off := 4) rfl (Cut.one Tryd.isAgg3 rfl)) rfl ?_
          refine O.q (Qt.idxM Tryd.runUnderlying88 Tryd.sizeOf98 rfl (Src.row 1 rfl) rfl (by first | omega | exact (Ld.lastZ_lt ‹_›).1 | exact (Ld.lastZ_lt ‹_›).2.1 | (simp only [List.length_append, List.length_cons, List.length_nil, List.length_set]; omega) | (simp only [List.length_set]; exact (Ld.lastZ_lt ‹_›).1) | (simp only [List.length_set]; exact (Ld.lastZ_lt ‹_›).2.1)) (by first | omega | exact (Ld.lastZ_lt ‹_›).1 | exact (Ld.lastZ_lt ‹_›).2.1 | (simp only [List.length_append, List.length_cons, List.length_nil, List.length_set]; omega) | (simp only [List.length_set]; exact (Ld.lastZ_lt ‹_›).1) | (simp only [List.length_set]; exact (Ld.lastZ_lt ‹_›).2.1))) rfl ?_
          refine O.p (Pu.fieldAddr (off' := voff V + (Ld.lastZ out e4.s e4.id).toNat * 8 + 4) Tryd.runUnderlying98 rfl Tryd.sizeOf3 rfl rfl rfl) rfl ?_
          refine O.l0 (Lo.storeM 1 (j := (Ld.lastZ out e4.s e4.id).toNat) (off := 4) (vs := [.int .i64 e4.code]) (e := [.int .i64 (({ e9 with state := 4 }).s), .int .i64 (({ e9 with state := 4 }).id), .int .i64 (({ e9 with state := 4 }).state), .int .i64 (({ e9 with state := 4 }).level), .int .i64 (({ e9 with state := 4 }).code), .int .i64 (({ e9 with state := 4 }).came), .int .i64 (({ e9 with state := 4 }).began), .int .i64 (({ e9 with state := 4 }).ended)]) ({ { e9 with state := 4 } with code := e4.code }) rfl rfl rfl rfl (by omega) hs104 rfl (by exact Tryd.sizeOf3) rfl rfl rfl rfl rfl) ?_
          rintro _ _ rfl
          have hs105 : ((out.set (Ld.lastZ out e4.s e4.id).toNat ({ e9 with state := 4 })).set (Ld.lastZ out e4.s e4.id).toNat ({ { e9 with state := 4 } with code := e4.code }))[(Ld.lastZ out e4.s e4.id).toNat]? = some ({ { e9 with state := 4 } with code := e4.code }) := List.getElem?_set_self (List.getElem?_eq_some_iff.1 hs104).1
          refine O.nil ?_
          refine J.region ?_
          refine O.p (Pu.move rfl) rfl ?_
          refine O.p (Pu.move rfl) rfl ?_
          refine O.p (Pu.fieldAddr (off' := 1) Tryd.runUnderlying83 rfl Tryd.sizeOf3 rfl rfl rfl) rfl ?_
          refine O.q (Qt.ld rfl (Cel.var 0 rfl) (o := 0) (off := 1) rfl (Cut.one Tryd.isAgg3 rfl)) rfl ?_
          refine O.q (Qt.idxM Tryd.runUnderlying88 Tryd.sizeOf98 rfl (Src.row 1 rfl) rfl (by first | omega | exact (Ld.lastZ_lt ‹_›).1 | exact (Ld.lastZ_lt ‹_›).2.1 | (simp only [List.length_append, List.length_cons, List.length_nil, List.length_set]; omega) | (simp only [List.length_set]; exact (Ld.lastZ_lt ‹_›).1) | (simp only [List.length_set]; exact (Ld.lastZ_lt ‹_›).2.1)) (by first | omega | exact (Ld.lastZ_lt ‹_›).1 | exact (Ld.lastZ_lt ‹_›).2.1 | (simp only [List.length_append, List.length_cons, List.length_nil, List.length_set]; omega) | (simp only [List.length_set]; exact (Ld.lastZ_lt ‹_›).1) | (simp only [List.length_set]; exact (Ld.lastZ_lt ‹_›).2.1))) rfl ?_
          refine O.p (Pu.fieldAddr (off' := voff V + (Ld.lastZ out e4.s e4.id).toNat * 8 + 7) Tryd.runUnderlying98 rfl Tryd.sizeOf3 rfl rfl rfl) rfl ?_
          refine O.l0 (Lo.storeM 1 (j := (Ld.lastZ out e4.s e4.id).toNat) (off := 7) (vs := [.int .i64 e4.tick]) (e := [.int .i64 (({ { e9 with state := 4 } with code := e4.code }).s), .int .i64 (({ { e9 with state := 4 } with code := e4.code }).id), .int .i64 (({ { e9 with state := 4 } with code := e4.code }).state), .int .i64 (({ { e9 with state := 4 } with code := e4.code }).level), .int .i64 (({ { e9 with state := 4 } with code := e4.code }).code), .int .i64 (({ { e9 with state := 4 } with code := e4.code }).came), .int .i64 (({ { e9 with state := 4 } with code := e4.code }).began), .int .i64 (({ { e9 with state := 4 } with code := e4.code }).ended)]) ({ { { e9 with state := 4 } with code := e4.code } with ended := e4.tick }) rfl rfl rfl rfl (by omega) hs105 rfl (by exact Tryd.sizeOf3) rfl rfl rfl rfl rfl) ?_
          rintro _ _ rfl
          have hs106 : (((out.set (Ld.lastZ out e4.s e4.id).toNat ({ e9 with state := 4 })).set (Ld.lastZ out e4.s e4.id).toNat ({ { e9 with state := 4 } with code := e4.code })).set (Ld.lastZ out e4.s e4.id).toNat ({ { { e9 with state := 4 } with code := e4.code } with ended := e4.tick }))[(Ld.lastZ out e4.s e4.id).toNat]? = some ({ { { e9 with state := 4 } with code := e4.code } with ended := e4.tick }) := List.getElem?_set_self (List.getElem?_eq_some_iff.1 hs105).1
          refine O.nil ?_
          refine J.blk ?_
          refine J.seq ?_
          refine J.region ?_
          refine O.p (Pu.move rfl) rfl ?_
          refine O.p (Pu.not rfl) rfl ?_
          refine O.nil ?_
          refine J.condF rfl (not_of_true h102) ?_
          refine J.skip ?_
          refine J.blk ?_
          refine J.region ?_
          refine O.p (Pu.move rfl) rfl ?_
          refine O.p (Pu.add' rfl rfl (by first | omega | (simp only [List.length_append, List.length_cons, List.length_nil, List.length_set]; omega))) rfl ?_
          refine O.p (Pu.assign rfl) rfl ?_
          refine O.nil ?_
          exact J.lp ⟨k + 1, V, ((out.set (Ld.lastZ out e4.s e4.id).toNat ({ e9 with state := 4 })).set (Ld.lastZ out e4.s e4.id).toNat ({ { e9 with state := 4 } with code := e4.code })).set (Ld.lastZ out e4.s e4.id).toNat ({ { { e9 with state := 4 } with code := e4.code } with ended := e4.tick })⟩ (show (k + 1) ≤ l.length ∧ Ld.readU l (k + 1) = some (((out.set (Ld.lastZ out e4.s e4.id).toNat ({ e9 with state := 4 })).set (Ld.lastZ out e4.s e4.id).toNat ({ { e9 with state := 4 } with code := e4.code })).set (Ld.lastZ out e4.s e4.id).toNat ({ { { e9 with state := 4 } with code := e4.code } with ended := e4.tick })) ∧ (((out.set (Ld.lastZ out e4.s e4.id).toNat ({ e9 with state := 4 })).set (Ld.lastZ out e4.s e4.id).toNat ({ { e9 with state := 4 } with code := e4.code })).set (Ld.lastZ out e4.s e4.id).toNat ({ { { e9 with state := 4 } with code := e4.code } with ended := e4.tick })).length ≤ (k + 1) from ⟨by omega, (by rw [Ld.readU_succ hst ‹_›]; exact (by first | exact Ld.step_work ‹_› ‹_› (by omega) ‹_› | (rw [Ld.step_some ‹_› ‹_›]; simp_all [Ld.ruled, Ld.may, Ld.does, Ld.isOpen_or, Ld.there, Ld.fresh]; done) | (rw [Ld.step_none ‹_›]; simp_all [Ld.ruled, Ld.fresh]; done))), by first | omega | (simp only [List.length_append, List.length_singleton, List.length_set]; omega)⟩) (show l.length - (k + 1) < l.length - k from (by first | omega | exact (Ld.lastZ_lt ‹_›).1 | exact (Ld.lastZ_lt ‹_›).2.1 | (simp only [List.length_append, List.length_cons, List.length_nil, List.length_set]; omega) | (simp only [List.length_set]; exact (Ld.lastZ_lt ‹_›).1) | (simp only [List.length_set]; exact (Ld.lastZ_lt ‹_›).2.1))) ⟨rfl, rfl, (congrArg (fun z => some (Value.int .i64 z)) (by first | rfl | omega : ((k : Int) + 1 : Int) = ((k + 1) : Int))), trivial⟩ [1] (by decide) rfl
         ·
          have p107 := of_decide_eq_false h102
          refine J.skip ?_
          refine J.blk ?_
          refine J.seq ?_
          refine J.region ?_
          refine O.p (Pu.move rfl) rfl ?_
          refine O.p (Pu.not rfl) rfl ?_
          refine O.nil ?_
          refine J.condT rfl (not_of_false h102) ?_
          refine J.seq ?_
          refine J.region ?_
          refine O.p (Pu.move rfl) rfl ?_
          refine O.p (Pu.assign rfl) rfl ?_
          refine O.p (Pu.assign rfl) rfl ?_
          refine O.p (Pu.assign rfl) rfl ?_
          refine O.nil ?_
          refine J.nilRow 98 8 ?_
          exact J.ret (Fin.ret (rs := [.tmp 2, .tmp 3, .tmp 4]) rfl [_, _, _] ⟨rfl, rfl, rfl, trivial⟩ [0] (by decide) [row (Value.slice none 0 0) 98 8 (([] : List Ft).map Ft.cells)] rfl ⟨Value.slice none 0 0, (by rw [Ld.read_at hst ‹_› (by first | exact Ld.step_work ‹_› ‹_› (by omega) ‹_› | (rw [Ld.step_some ‹_› ‹_›]; simp_all [Ld.ruled, Ld.may, Ld.does, Ld.isOpen_or, Ld.there, Ld.fresh]; done) | (rw [Ld.step_none ‹_›]; simp_all [Ld.ruled, Ld.fresh]; done))]; rfl), (by rw [Ld.read_at hst ‹_› (by first | exact Ld.step_work ‹_› ‹_› (by omega) ‹_› | (rw [Ld.step_some ‹_› ‹_›]; simp_all [Ld.ruled, Ld.may, Ld.does, Ld.isOpen_or, Ld.there, Ld.fresh]; done) | (rw [Ld.step_none ‹_›]; simp_all [Ld.ruled, Ld.fresh]; done))])⟩)
       ·
        have p108 := of_decide_eq_false h94
        refine J.seq ?_
        refine J.seq ?_
        refine J.region ?_
        refine O.p (Pu.eql rfl rfl) rfl ?_
        refine O.p (Pu.assign rfl) rfl ?_
        refine O.nil ?_
        refine J.cond rfl (fun h109 => ?_) (fun h109 => ?_)
        ·
         have p110 := of_decide_eq_true h109
         refine J.skip ?_
         refine J.condT rfl h109 ?_
         refine J.region ?_
         refine O.p (Pu.move rfl) rfl ?_
         refine O.p (Pu.eql rfl rfl) rfl ?_
         refine O.p (Pu.assign rfl) rfl ?_
         refine O.nil ?_
         refine J.blk ?_
         refine J.seq ?_
         refine J.region ?_
         refine O.p (Pu.move rfl) rfl ?_
         refine O.p (Pu.not rfl) rfl ?_
         refine O.nil ?_
         refine J.cond rfl (fun h111 => ?_) (fun h111 => ?_)
         ·
          have h112 : (decide (e9.state = 3)) = false := not_flip h111
          have p113 := of_decide_eq_false h112
          refine J.seq ?_
          refine J.region ?_
          refine O.p (Pu.move rfl) rfl ?_
          refine O.p (Pu.assign rfl) rfl ?_
          refine O.p (Pu.assign rfl) rfl ?_
          refine O.p (Pu.assign rfl) rfl ?_
          refine O.nil ?_
          refine J.nilRow 98 8 ?_
          exact J.ret (Fin.ret (rs := [.tmp 2, .tmp 3, .tmp 4]) rfl [_, _, _] ⟨rfl, rfl, rfl, trivial⟩ [0] (by decide) [row (Value.slice none 0 0) 98 8 (([] : List Ft).map Ft.cells)] rfl ⟨Value.slice none 0 0, (by rw [Ld.read_at hst ‹_› (by first | exact Ld.step_work ‹_› ‹_› (by omega) ‹_› | (rw [Ld.step_some ‹_› ‹_›]; simp_all [Ld.ruled, Ld.may, Ld.does, Ld.isOpen_or, Ld.there, Ld.fresh]; done) | (rw [Ld.step_none ‹_›]; simp_all [Ld.ruled, Ld.fresh]; done))]; rfl), (by rw [Ld.read_at hst ‹_› (by first | exact Ld.step_work ‹_› ‹_› (by omega) ‹_› | (rw [Ld.step_some ‹_› ‹_›]; simp_all [Ld.ruled, Ld.may, Ld.does, Ld.isOpen_or, Ld.there, Ld.fresh]; done) | (rw [Ld.step_none ‹_›]; simp_all [Ld.ruled, Ld.fresh]; done))])⟩)
         ·
          have h114 : (decide (e9.state = 3)) = true := not_flip h111
          have p115 := of_decide_eq_true h114
          refine J.skip ?_
          refine J.blk ?_
          refine J.region ?_
          refine O.p (Pu.move rfl) rfl ?_
          refine O.p (Pu.add' rfl rfl (by first | omega | (simp only [List.length_append, List.length_cons, List.length_nil, List.length_set]; omega))) rfl ?_
          refine O.p (Pu.assign rfl) rfl ?_
          refine O.nil ?_
          exact J.lp ⟨k + 1, V, out⟩ (show (k + 1) ≤ l.length ∧ Ld.readU l (k + 1) = some out ∧ out.length ≤ (k + 1) from ⟨by omega, (by rw [Ld.readU_succ hst ‹_›]; exact (by first | exact Ld.step_work ‹_› ‹_› (by omega) ‹_› | (rw [Ld.step_some ‹_› ‹_›]; simp_all [Ld.ruled, Ld.may, Ld.does, Ld.isOpen_or, Ld.there, Ld.fresh]; done) | (rw [Ld.step_none ‹_›]; simp_all [Ld.ruled, Ld.fresh]; done))), by first | omega | (simp only [List.length_append, List.length_singleton, List.length_set]; omega)⟩) (show l.length - (k + 1) < l.length - k from (by first | omega | exact (Ld.lastZ_lt ‹_›).1 | exact (Ld.lastZ_lt ‹_›).2.1 | (simp only [List.length_append, List.length_cons, List.length_nil, List.length_set]; omega) | (simp only [List.length_set]; exact (Ld.lastZ_lt ‹_›).1) | (simp only [List.length_set]; exact (Ld.lastZ_lt ‹_›).2.1))) ⟨rfl, rfl, (congrArg (fun z => some (Value.int .i64 z)) (by first | rfl | omega : ((k : Int) + 1 : Int) = ((k + 1) : Int))), trivial⟩ [1] (by decide) rfl
        ·
         have p116 := of_decide_eq_false h109
         refine J.region ?_
         refine O.p (Pu.eql rfl rfl) rfl ?_
         refine O.p (Pu.assign rfl) rfl ?_
         refine O.nil ?_
         refine J.cond rfl (fun h117 => ?_) (fun h117 => ?_)
         ·
          have p118 := of_decide_eq_true h117
          refine J.region ?_
          refine O.p (Pu.move rfl) rfl ?_
          refine O.p (Pu.eql rfl rfl) rfl ?_
          refine O.p (Pu.assign rfl) rfl ?_
          refine O.nil ?_
          refine J.blk ?_
          refine J.seq ?_
          refine J.region ?_
          refine O.p (Pu.move rfl) rfl ?_
          refine O.p (Pu.not rfl) rfl ?_
          refine O.nil ?_
          refine J.cond rfl (fun h119 => ?_) (fun h119 => ?_)
          ·
           have h120 : (decide (e9.state = 3)) = false := not_flip h119
           have p121 := of_decide_eq_false h120
           refine J.seq ?_
           refine J.region ?_
           refine O.p (Pu.move rfl) rfl ?_
           refine O.p (Pu.assign rfl) rfl ?_
           refine O.p (Pu.assign rfl) rfl ?_
           refine O.p (Pu.assign rfl) rfl ?_
           refine O.nil ?_
           refine J.nilRow 98 8 ?_
           exact J.ret (Fin.ret (rs := [.tmp 2, .tmp 3, .tmp 4]) rfl [_, _, _] ⟨rfl, rfl, rfl, trivial⟩ [0] (by decide) [row (Value.slice none 0 0) 98 8 (([] : List Ft).map Ft.cells)] rfl ⟨Value.slice none 0 0, (by rw [Ld.read_at hst ‹_› (by first | exact Ld.step_work ‹_› ‹_› (by omega) ‹_› | (rw [Ld.step_some ‹_› ‹_›]; simp_all [Ld.ruled, Ld.may, Ld.does, Ld.isOpen_or, Ld.there, Ld.fresh]; done) | (rw [Ld.step_none ‹_›]; simp_all [Ld.ruled, Ld.fresh]; done))]; rfl), (by rw [Ld.read_at hst ‹_› (by first | exact Ld.step_work ‹_› ‹_› (by omega) ‹_› | (rw [Ld.step_some ‹_› ‹_›]; simp_all [Ld.ruled, Ld.may, Ld.does, Ld.isOpen_or, Ld.there, Ld.fresh]; done) | (rw [Ld.step_none ‹_›]; simp_all [Ld.ruled, Ld.fresh]; done))])⟩)
          ·
           have h122 : (decide (e9.state = 3)) = true := not_flip h119
           have p123 := of_decide_eq_true h122
           refine J.skip ?_
           refine J.blk ?_
           refine J.region ?_
           refine O.p (Pu.move rfl) rfl ?_
           refine O.p (Pu.add' rfl rfl (by first | omega | (simp only [List.length_append, List.length_cons, List.length_nil, List.length_set]; omega))) rfl ?_
           refine O.p (Pu.assign rfl) rfl ?_
           refine O.nil ?_
           exact J.lp ⟨k + 1, V, out⟩ (show (k + 1) ≤ l.length ∧ Ld.readU l (k + 1) = some out ∧ out.length ≤ (k + 1) from ⟨by omega, (by rw [Ld.readU_succ hst ‹_›]; exact (by first | exact Ld.step_work ‹_› ‹_› (by omega) ‹_› | (rw [Ld.step_some ‹_› ‹_›]; simp_all [Ld.ruled, Ld.may, Ld.does, Ld.isOpen_or, Ld.there, Ld.fresh]; done) | (rw [Ld.step_none ‹_›]; simp_all [Ld.ruled, Ld.fresh]; done))), by first | omega | (simp only [List.length_append, List.length_singleton, List.length_set]; omega)⟩) (show l.length - (k + 1) < l.length - k from (by first | omega | exact (Ld.lastZ_lt ‹_›).1 | exact (Ld.lastZ_lt ‹_›).2.1 | (simp only [List.length_append, List.length_cons, List.length_nil, List.length_set]; omega) | (simp only [List.length_set]; exact (Ld.lastZ_lt ‹_›).1) | (simp only [List.length_set]; exact (Ld.lastZ_lt ‹_›).2.1))) ⟨rfl, rfl, (congrArg (fun z => some (Value.int .i64 z)) (by first | rfl | omega : ((k : Int) + 1 : Int) = ((k + 1) : Int))), trivial⟩ [1] (by decide) rfl
         ·
          have p124 := of_decide_eq_false h117
          refine J.seq ?_
          refine J.region ?_
          refine O.p (Pu.eql rfl rfl) rfl ?_
          refine O.p (Pu.assign rfl) rfl ?_
          refine O.nil ?_
          refine J.cond rfl (fun h125 => ?_) (fun h125 => ?_)
          ·
           have p126 := of_decide_eq_true h125
           refine J.seq ?_
           refine J.region ?_
           refine O.p (Pu.move rfl) rfl ?_
           refine O.p (Pu.eql rfl rfl) rfl ?_
           refine O.p (Pu.move rfl) rfl ?_
           refine O.gskip (t := 131) rfl rfl (no_bool (by rw [h76]; decide)) rfl rfl ?_
           refine O.gskip (t := 131) rfl rfl (no_bool (by rw [h76]; decide)) rfl rfl ?_
           refine O.p (Pu.pickT rfl h76 rfl) rfl ?_
           refine O.p (Pu.assign rfl) rfl ?_
           refine O.nil ?_
           refine J.seq ?_
           refine J.region ?_
           refine O.p (Pu.move rfl) rfl ?_
           refine O.nil ?_
           refine J.condT rfl rfl ?_
           refine J.seq ?_
           refine J.region ?_
           refine O.p (Pu.move rfl) rfl ?_
           refine O.p (Pu.move rfl) rfl ?_
           refine O.q (Qt.idxM Tryd.runUnderlying88 Tryd.sizeOf98 rfl (Src.row 1 rfl) rfl (by first | omega | exact (Ld.lastZ_lt ‹_›).1 | exact (Ld.lastZ_lt ‹_›).2.1 | (simp only [List.length_append, List.length_cons, List.length_nil, List.length_set]; omega) | (simp only [List.length_set]; exact (Ld.lastZ_lt ‹_›).1) | (simp only [List.length_set]; exact (Ld.lastZ_lt ‹_›).2.1)) (by first | omega | exact (Ld.lastZ_lt ‹_›).1 | exact (Ld.lastZ_lt ‹_›).2.1 | (simp only [List.length_append, List.length_cons, List.length_nil, List.length_set]; omega) | (simp only [List.length_set]; exact (Ld.lastZ_lt ‹_›).1) | (simp only [List.length_set]; exact (Ld.lastZ_lt ‹_›).2.1))) rfl ?_
           refine O.p (Pu.fieldAddr (off' := voff V + (Ld.lastZ out e4.s e4.id).toNat * 8 + 2) Tryd.runUnderlying98 rfl Tryd.sizeOf3 rfl rfl rfl) rfl ?_
           refine O.l0 (Lo.storeM 1 (j := (Ld.lastZ out e4.s e4.id).toNat) (off := 2) (vs := [.int .i64 5]) (e := [.int .i64 e9.s, .int .i64 e9.id, .int .i64 e9.state, .int .i64 e9.level, .int .i64 e9.code, .int .i64 e9.came, .int .i64 e9.began, .int .i64 e9.ended]) ({ e9 with state := 5 }) rfl rfl rfl rfl (by omega) he9 rfl (by exact Tryd.sizeOf3) rfl rfl rfl rfl rfl) ?_
           rintro _ _ rfl
           have hs127 : (out.set (Ld.lastZ out e4.s e4.id).toNat ({ e9 with state := 5 }))[(Ld.lastZ out e4.s e4.id).toNat]? = some ({ e9 with state := 5 }) := List.getElem?_set_self (List.getElem?_eq_some_iff.1 he9).1
           refine O.nil ?_
           refine J.region ?_
           refine O.p (Pu.move rfl) rfl ?_
           refine O.p (Pu.move rfl) rfl ?_
           refine O.p (Pu.fieldAddr (off' := 1) Tryd.runUnderlying83 rfl Tryd.sizeOf3 rfl rfl rfl) rfl ?_
           refine O.q (Qt.ld rfl (Cel.var 0 rfl) (o := 0) (off := 1) rfl (Cut.one Tryd.isAgg3 rfl)) rfl ?_
           refine O.q (Qt.idxM Tryd.runUnderlying88 Tryd.sizeOf98 rfl (Src.row 1 rfl) rfl (by first | omega | exact (Ld.lastZ_lt ‹_›).1 | exact (Ld.lastZ_lt ‹_›).2.1 | (simp only [List.length_append, List.length_cons, List.length_nil, List.length_set]; omega) | (simp only [List.length_set]; exact (Ld.lastZ_lt ‹_›).1) | (simp only [List.length_set]; exact (Ld.lastZ_lt ‹_›).2.1)) (by first | omega | exact (Ld.lastZ_lt ‹_›).1 | exact (Ld.lastZ_lt ‹_›).2.1 | (simp only [List.length_append, List.length_cons, List.length_nil, List.length_set]; omega) | (simp only [List.length_set]; exact (Ld.lastZ_lt ‹_›).1) | (simp only [List.length_set]; exact (Ld.lastZ_lt ‹_›).2.1))) rfl ?_
           refine O.p (Pu.fieldAddr (off' := voff V + (Ld.lastZ out e4.s e4.id).toNat * 8 + 7) Tryd.runUnderlying98 rfl Tryd.sizeOf3 rfl rfl rfl) rfl ?_
           refine O.l0 (Lo.storeM 1 (j := (Ld.lastZ out e4.s e4.id).toNat) (off := 7) (vs := [.int .i64 e4.tick]) (e := [.int .i64 (({ e9 with state := 5 }).s), .int .i64 (({ e9 with state := 5 }).id), .int .i64 (({ e9 with state := 5 }).state), .int .i64 (({ e9 with state := 5 }).level), .int .i64 (({ e9 with state := 5 }).code), .int .i64 (({ e9 with state := 5 }).came), .int .i64 (({ e9 with state := 5 }).began), .int .i64 (({ e9 with state := 5 }).ended)]) ({ { e9 with state := 5 } with ended := e4.tick }) rfl rfl rfl rfl (by omega) hs127 rfl (by exact Tryd.sizeOf3) rfl rfl rfl rfl rfl) ?_
           rintro _ _ rfl
           have hs128 : ((out.set (Ld.lastZ out e4.s e4.id).toNat ({ e9 with state := 5 })).set (Ld.lastZ out e4.s e4.id).toNat ({ { e9 with state := 5 } with ended := e4.tick }))[(Ld.lastZ out e4.s e4.id).toNat]? = some ({ { e9 with state := 5 } with ended := e4.tick }) := List.getElem?_set_self (List.getElem?_eq_some_iff.1 hs127).1
           refine O.nil ?_
           refine J.blk ?_
           refine J.seq ?_
           refine J.region ?_
           refine O.p (Pu.move rfl) rfl ?_
           refine O.p (Pu.not rfl) rfl ?_
           refine O.nil ?_
           refine J.condF rfl rfl ?_
           refine J.skip ?_
           refine J.blk ?_
           refine J.region ?_
           refine O.p (Pu.move rfl) rfl ?_
           refine O.p (Pu.add' rfl rfl (by first | omega | (simp only [List.length_append, List.length_cons, List.length_nil, List.length_set]; omega))) rfl ?_
           refine O.p (Pu.assign rfl) rfl ?_
           refine O.nil ?_
           exact J.lp ⟨k + 1, V, (out.set (Ld.lastZ out e4.s e4.id).toNat ({ e9 with state := 5 })).set (Ld.lastZ out e4.s e4.id).toNat ({ { e9 with state := 5 } with ended := e4.tick })⟩ (show (k + 1) ≤ l.length ∧ Ld.readU l (k + 1) = some ((out.set (Ld.lastZ out e4.s e4.id).toNat ({ e9 with state := 5 })).set (Ld.lastZ out e4.s e4.id).toNat ({ { e9 with state := 5 } with ended := e4.tick })) ∧ ((out.set (Ld.lastZ out e4.s e4.id).toNat ({ e9 with state := 5 })).set (Ld.lastZ out e4.s e4.id).toNat ({ { e9 with state := 5 } with ended := e4.tick })).length ≤ (k + 1) from ⟨by omega, (by rw [Ld.readU_succ hst ‹_›]; exact (by first | exact Ld.step_work ‹_› ‹_› (by omega) ‹_› | (rw [Ld.step_some ‹_› ‹_›]; simp_all [Ld.ruled, Ld.may, Ld.does, Ld.isOpen_or, Ld.there, Ld.fresh]; done) | (rw [Ld.step_none ‹_›]; simp_all [Ld.ruled, Ld.fresh]; done))), by first | omega | (simp only [List.length_append, List.length_singleton, List.length_set]; omega)⟩) (show l.length - (k + 1) < l.length - k from (by first | omega | exact (Ld.lastZ_lt ‹_›).1 | exact (Ld.lastZ_lt ‹_›).2.1 | (simp only [List.length_append, List.length_cons, List.length_nil, List.length_set]; omega) | (simp only [List.length_set]; exact (Ld.lastZ_lt ‹_›).1) | (simp only [List.length_set]; exact (Ld.lastZ_lt ‹_›).2.1))) ⟨rfl, rfl, (congrArg (fun z => some (Value.int .i64 z)) (by first | rfl | omega : ((k : Int) + 1 : Int) = ((k + 1) : Int))), trivial⟩ [1] (by decide) rfl
          ·
           have p129 := of_decide_eq_false h125
           refine J.skip ?_
           refine J.blk ?_
           refine J.seq ?_
           refine J.region ?_
           refine O.p (Pu.move rfl) rfl ?_
           refine O.p (Pu.not rfl) rfl ?_
           refine O.nil ?_
           refine J.condF rfl rfl ?_
           refine J.skip ?_
           refine J.blk ?_
           refine J.region ?_
           refine O.p (Pu.move rfl) rfl ?_
           refine O.p (Pu.add' rfl rfl (by first | omega | (simp only [List.length_append, List.length_cons, List.length_nil, List.length_set]; omega))) rfl ?_
           refine O.p (Pu.assign rfl) rfl ?_
           refine O.nil ?_
           exact J.lp ⟨k + 1, V, out⟩ (show (k + 1) ≤ l.length ∧ Ld.readU l (k + 1) = some out ∧ out.length ≤ (k + 1) from ⟨by omega, (by rw [Ld.readU_succ hst ‹_›]; exact (by first | exact Ld.step_work ‹_› ‹_› (by omega) ‹_› | (rw [Ld.step_some ‹_› ‹_›]; simp_all [Ld.ruled, Ld.may, Ld.does, Ld.isOpen_or, Ld.there, Ld.fresh]; done) | (rw [Ld.step_none ‹_›]; simp_all [Ld.ruled, Ld.fresh]; done))), by first | omega | (simp only [List.length_append, List.length_singleton, List.length_set]; omega)⟩) (show l.length - (k + 1) < l.length - k from (by first | omega | exact (Ld.lastZ_lt ‹_›).1 | exact (Ld.lastZ_lt ‹_›).2.1 | (simp only [List.length_append, List.length_cons, List.length_nil, List.length_set]; omega) | (simp only [List.length_set]; exact (Ld.lastZ_lt ‹_›).1) | (simp only [List.length_set]; exact (Ld.lastZ_lt ‹_›).2.1))) ⟨rfl, rfl, (congrArg (fun z => some (Value.int .i64 z)) (by first | rfl | omega : ((k : Int) + 1 : Int) = ((k + 1) : Int))), trivial⟩ [1] (by decide) rfl
    ·
     have p130 := of_decide_eq_false h76
     refine O.gq (t := 48) rfl rfl h76 rfl (Pu.qt (Pu.move rfl)) rfl ?_
     refine O.gq (t := 48) rfl rfl h76 rfl (Pu.qt (Pu.eql rfl rfl)) rfl ?_
     refine O.p (Pu.pickF rfl h76 rfl) rfl ?_
     refine O.p (Pu.assign rfl) rfl ?_
     refine O.nil ?_
     refine J.seq ?_
     refine J.region ?_
     refine O.p (Pu.assign rfl) rfl ?_
     refine O.nil ?_
     refine J.seq ?_
     refine J.seq ?_
     refine J.region ?_
     refine O.p (Pu.fieldAddr (off' := 0) Tryd.runUnderlying83 rfl Tryd.sizeOf3 rfl rfl rfl) rfl ?_
     refine O.q (Qt.ld rfl (Cel.var 0 rfl) (o := 0) (off := 0) rfl (Cut.one Tryd.isAgg3 rfl)) rfl ?_
     refine O.nil ?_
     refine J.block ?_
     refine J.seq ?_
     refine J.region ?_
     refine O.p (Pu.eql rfl rfl) rfl ?_
     refine O.p (Pu.assign rfl) rfl ?_
     refine O.nil ?_
     refine J.cond rfl (fun h131 => ?_) (fun h131 => ?_)
     ·
      have p132 := of_decide_eq_true h131
      refine J.seq ?_
      refine J.region ?_
      refine O.p (Pu.move rfl) rfl ?_
      refine O.p (Pu.not rfl) rfl ?_
      refine O.p (Pu.assign rfl) rfl ?_
      refine O.nil ?_
      refine J.seq ?_
      refine J.region ?_
      refine O.p (Pu.fieldAddr (off' := 2) Tryd.runUnderlying83 rfl Tryd.sizeOf3 rfl rfl rfl) rfl ?_
      refine O.q (Qt.ld rfl (Cel.var 0 rfl) (o := 0) (off := 2) rfl (Cut.one Tryd.isAgg3 rfl)) rfl ?_
      refine O.p (Pu.fieldAddr (off' := 3) Tryd.runUnderlying83 rfl Tryd.sizeOf3 rfl rfl rfl) rfl ?_
      refine O.q (Qt.ld rfl (Cel.var 0 rfl) (o := 0) (off := 3) rfl (Cut.one Tryd.isAgg3 rfl)) rfl ?_
      refine O.p (Pu.fieldAddr (off' := 5) Tryd.runUnderlying83 rfl Tryd.sizeOf3 rfl rfl rfl) rfl ?_
      refine O.q (Qt.ld rfl (Cel.var 0 rfl) (o := 0) (off := 5) rfl (Cut.one Tryd.isAgg3 rfl)) rfl ?_
      refine O.p (Pu.fieldAddr (off' := 4) Tryd.runUnderlying83 rfl Tryd.sizeOf3 rfl rfl rfl) rfl ?_
      refine O.q (Qt.ld rfl (Cel.var 0 rfl) (o := 0) (off := 4) rfl (Cut.one Tryd.isAgg3 rfl)) rfl ?_
      refine O.p (Pu.fieldAddr (off' := 1) Tryd.runUnderlying83 rfl Tryd.sizeOf3 rfl rfl rfl) rfl ?_
      refine O.q (Qt.ld rfl (Cel.var 0 rfl) (o := 0) (off := 1) rfl (Cut.one Tryd.isAgg3 rfl)) rfl ?_
      refine O.p (Pu.build [(0, .int .i64 e4.s), (1, .int .i64 e4.id), (2, .int .i64 2), (3, .int .i64 e4.a), (4, .int .i64 e4.code), (5, .int .i64 e4.tick)] [.int .i64 e4.s, .int .i64 e4.id, .int .i64 2, .int .i64 e4.a, .int .i64 e4.code, .int .i64 e4.tick, .int .i64 0, .int .i64 0] #[(0, 1), (1, 1), (2, 1), (3, 1), (4, 1), (5, 1), (6, 1), (7, 1)] Tryd.runUnderlying98 Tryd.zeroValue98 (places98 Tryd.underlying98) rfl (by kernel_rfl)) rfl ?_
      refine O.l (Lo.alloc [.int .i64 0, .int .i64 0, .int .i64 0, .int .i64 0, .int .i64 0, .int .i64 0, .int .i64 0, .int .i64 0] (by exact Tryd.zeroValue98) rfl) rfl ?_
      rintro _ _ ⟨g133, rfl, rfl⟩
      refine O.l0 (Lo.store 0 (vs := [.int .i64 e4.s, .int .i64 e4.id, .int .i64 2, .int .i64 e4.a, .int .i64 e4.code, .int .i64 e4.tick, .int .i64 0, .int .i64 0]) [.int .i64 e4.s, .int .i64 e4.id, .int .i64 2, .int .i64 e4.a, .int .i64 e4.code, .int .i64 e4.tick, .int .i64 0, .int .i64 0] rfl rfl rfl (by exact Tryd.sizeOf98) rfl rfl rfl rfl rfl) ?_
      rintro _ _ rfl
      refine O.nil ?_
      refine J.seq ?_
      refine J.seq ?_
      refine J.region ?_
      refine O.p (Pu.fieldAddr (off' := 4) Tryd.runUnderlying83 rfl Tryd.sizeOf3 rfl rfl rfl) rfl ?_
      refine O.q (Qt.ld rfl (Cel.var 1 rfl) (o := 0) (off := 4) rfl (Cut.one Tryd.isAgg3 rfl)) rfl ?_
      refine O.p (Pu.neq rfl rfl) rfl ?_
      refine O.nil ?_
      refine J.cond rfl (fun h134 => ?_) (fun h134 => ?_)
      ·
       have p135 := of_decide_eq_true h134
       refine J.region ?_
       refine O.p (Pu.fieldAddr (off' := 2) Tryd.runUnderlying98 rfl Tryd.sizeOf3 rfl rfl rfl) rfl ?_
       refine O.l0 (Lo.store 0 (vs := [.int .i64 1]) [.int .i64 e4.s, .int .i64 e4.id, .int .i64 1, .int .i64 e4.a, .int .i64 e4.code, .int .i64 e4.tick, .int .i64 0, .int .i64 0] rfl rfl rfl (by exact Tryd.sizeOf3) rfl rfl rfl rfl rfl) ?_
       rintro _ _ rfl
       refine O.nil ?_
       refine J.region ?_
       refine O.p (Pu.move rfl) rfl ?_
       refine O.q (Qt.ld rfl (Cel.var 0 rfl) (o := 0) (off := 0) rfl (Cut.agg [.int .i64 e4.s, .int .i64 e4.id, .int .i64 1, .int .i64 e4.a, .int .i64 e4.code, .int .i64 e4.tick, .int .i64 0, .int .i64 0] Tryd.isAgg98 Tryd.sizeOf98 rfl rfl)) rfl ?_
       refine O.l (Lo.buildM (s := 8) Ft.cells [(⟨e4.s, e4.id, 1, e4.a, e4.code, e4.tick, 0, 0⟩ : Ft)] [(0, .agg #[.int .i64 e4.s, .int .i64 e4.id, .int .i64 1, .int .i64 e4.a, .int .i64 e4.code, .int .i64 e4.tick, .int .i64 0, .int .i64 0])] (by exact Tryd.runUnderlying88) (by exact Tryd.sizeOf98) (by exact Tryd.zeroValue98) rfl rfl rfl (by kernel_rfl) rfl rfl) rfl ?_
       rintro V136 _ rfl
       refine O.l (Lo.appendM (s := 8) 3 (by exact Tryd.underlying88) (by exact (info98).1) (by exact (info98).2.1) (by exact (info98).2.2.1) (by exact (info98).2.2.2) rfl rfl rfl rfl rfl (Src.row 0 rfl) Ft.one (by first | omega | exact (Ld.lastZ_lt ‹_›).1 | exact (Ld.lastZ_lt ‹_›).2.1 | (simp only [List.length_append, List.length_cons, List.length_nil, List.length_set]; omega) | (simp only [List.length_set]; exact (Ld.lastZ_lt ‹_›).1) | (simp only [List.length_set]; exact (Ld.lastZ_lt ‹_›).2.1)) (by first | omega | exact (Ld.lastZ_lt ‹_›).1 | exact (Ld.lastZ_lt ‹_›).2.1 | (simp only [List.length_append, List.length_cons, List.length_nil, List.length_set]; omega) | (simp only [List.length_set]; exact (Ld.lastZ_lt ‹_›).1) | (simp only [List.length_set]; exact (Ld.lastZ_lt ‹_›).2.1))) rfl ?_
       rintro V137 _ rfl
       refine O.p (Pu.assign rfl) rfl ?_
       refine O.nil ?_
       refine J.blk ?_
       refine J.seq ?_
       refine J.region ?_
       refine O.p (Pu.move rfl) rfl ?_
       refine O.p (Pu.not rfl) rfl ?_
       refine O.nil ?_
       refine J.cond rfl (fun h138 => ?_) (fun h138 => ?_)
       ·
        have h139 : (!(decide (e9.state = 3))) = false := not_flip h138
        have h140 : (decide (e9.state = 3)) = true := not_flip h139
        have p141 := of_decide_eq_true h140
        refine J.seq ?_
        refine J.region ?_
        refine O.p (Pu.move rfl) rfl ?_
        refine O.p (Pu.assign rfl) rfl ?_
        refine O.p (Pu.assign rfl) rfl ?_
        refine O.p (Pu.assign rfl) rfl ?_
        refine O.nil ?_
        refine J.nilRow 98 8 ?_
        exact J.ret (Fin.ret (rs := [.tmp 2, .tmp 3, .tmp 4]) rfl [_, _, _] ⟨rfl, rfl, rfl, trivial⟩ [0] (by decide) [row (Value.slice none 0 0) 98 8 (([] : List Ft).map Ft.cells)] rfl ⟨Value.slice none 0 0, (by rw [Ld.read_at hst ‹_› (by first | exact Ld.step_work ‹_› ‹_› (by omega) ‹_› | (rw [Ld.step_some ‹_› ‹_›]; simp_all [Ld.ruled, Ld.may, Ld.does, Ld.isOpen_or, Ld.there, Ld.fresh]; done) | (rw [Ld.step_none ‹_›]; simp_all [Ld.ruled, Ld.fresh]; done))]; rfl), (by rw [Ld.read_at hst ‹_› (by first | exact Ld.step_work ‹_› ‹_› (by omega) ‹_› | (rw [Ld.step_some ‹_› ‹_›]; simp_all [Ld.ruled, Ld.may, Ld.does, Ld.isOpen_or, Ld.there, Ld.fresh]; done) | (rw [Ld.step_none ‹_›]; simp_all [Ld.ruled, Ld.fresh]; done))])⟩)
       ·
        have h142 : (!(decide (e9.state = 3))) = true := not_flip h138
        have h143 : (decide (e9.state = 3)) = false := not_flip h142
        have p144 := of_decide_eq_false h143
        refine J.skip ?_
        refine J.blk ?_
        refine J.region ?_
        refine O.p (Pu.move rfl) rfl ?_
        refine O.p (Pu.add' rfl rfl (by first | omega | (simp only [List.length_append, List.length_cons, List.length_nil, List.length_set]; omega))) rfl ?_
        refine O.p (Pu.assign rfl) rfl ?_
        refine O.nil ?_
        exact J.lp ⟨k + 1, V137, out ++ ([(⟨e4.s, e4.id, 1, e4.a, e4.code, e4.tick, 0, 0⟩ : Ft)])⟩ (show (k + 1) ≤ l.length ∧ Ld.readU l (k + 1) = some (out ++ ([(⟨e4.s, e4.id, 1, e4.a, e4.code, e4.tick, 0, 0⟩ : Ft)])) ∧ (out ++ ([(⟨e4.s, e4.id, 1, e4.a, e4.code, e4.tick, 0, 0⟩ : Ft)])).length ≤ (k + 1) from ⟨by omega, (by rw [Ld.readU_succ hst ‹_›]; exact (by first | exact Ld.step_work ‹_› ‹_› (by omega) ‹_› | (rw [Ld.step_some ‹_› ‹_›]; simp_all [Ld.ruled, Ld.may, Ld.does, Ld.isOpen_or, Ld.there, Ld.fresh]; done) | (rw [Ld.step_none ‹_›]; simp_all [Ld.ruled, Ld.fresh]; done))), by first | omega | (simp only [List.length_append, List.length_singleton, List.length_set]; omega)⟩) (show l.length - (k + 1) < l.length - k from (by first | omega | exact (Ld.lastZ_lt ‹_›).1 | exact (Ld.lastZ_lt ‹_›).2.1 | (simp only [List.length_append, List.length_cons, List.length_nil, List.length_set]; omega) | (simp only [List.length_set]; exact (Ld.lastZ_lt ‹_›).1) | (simp only [List.length_set]; exact (Ld.lastZ_lt ‹_›).2.1))) ⟨rfl, rfl, (congrArg (fun z => some (Value.int .i64 z)) (by first | rfl | omega : ((k : Int) + 1 : Int) = ((k + 1) : Int))), trivial⟩ [3] (by decide) rfl
      ·
       have p145 := of_decide_eq_false h134
       refine J.skip ?_
       refine J.region ?_
       refine O.p (Pu.move rfl) rfl ?_
       refine O.q (Qt.ld rfl (Cel.var 0 rfl) (o := 0) (off := 0) rfl (Cut.agg [.int .i64 e4.s, .int .i64 e4.id, .int .i64 2, .int .i64 e4.a, .int .i64 e4.code, .int .i64 e4.tick, .int .i64 0, .int .i64 0] Tryd.isAgg98 Tryd.sizeOf98 rfl rfl)) rfl ?_
       refine O.l (Lo.buildM (s := 8) Ft.cells [(⟨e4.s, e4.id, 2, e4.a, e4.code, e4.tick, 0, 0⟩ : Ft)] [(0, .agg #[.int .i64 e4.s, .int .i64 e4.id, .int .i64 2, .int .i64 e4.a, .int .i64 e4.code, .int .i64 e4.tick, .int .i64 0, .int .i64 0])] (by exact Tryd.runUnderlying88) (by exact Tryd.sizeOf98) (by exact Tryd.zeroValue98) rfl rfl rfl (by kernel_rfl) rfl rfl) rfl ?_
       rintro V146 _ rfl
       refine O.l (Lo.appendM (s := 8) 3 (by exact Tryd.underlying88) (by exact (info98).1) (by exact (info98).2.1) (by exact (info98).2.2.1) (by exact (info98).2.2.2) rfl rfl rfl rfl rfl (Src.row 0 rfl) Ft.one (by first | omega | exact (Ld.lastZ_lt ‹_›).1 | exact (Ld.lastZ_lt ‹_›).2.1 | (simp only [List.length_append, List.length_cons, List.length_nil, List.length_set]; omega) | (simp only [List.length_set]; exact (Ld.lastZ_lt ‹_›).1) | (simp only [List.length_set]; exact (Ld.lastZ_lt ‹_›).2.1)) (by first | omega | exact (Ld.lastZ_lt ‹_›).1 | exact (Ld.lastZ_lt ‹_›).2.1 | (simp only [List.length_append, List.length_cons, List.length_nil, List.length_set]; omega) | (simp only [List.length_set]; exact (Ld.lastZ_lt ‹_›).1) | (simp only [List.length_set]; exact (Ld.lastZ_lt ‹_›).2.1))) rfl ?_
       rintro V147 _ rfl
       refine O.p (Pu.assign rfl) rfl ?_
       refine O.nil ?_
       refine J.blk ?_
       refine J.seq ?_
       refine J.region ?_
       refine O.p (Pu.move rfl) rfl ?_
       refine O.p (Pu.not rfl) rfl ?_
       refine O.nil ?_
       refine J.cond rfl (fun h148 => ?_) (fun h148 => ?_)
       ·
        have h149 : (!(decide (e9.state = 3))) = false := not_flip h148
        have h150 : (decide (e9.state = 3)) = true := not_flip h149
        have p151 := of_decide_eq_true h150
        refine J.seq ?_
        refine J.region ?_
        refine O.p (Pu.move rfl) rfl ?_
        refine O.p (Pu.assign rfl) rfl ?_
        refine O.p (Pu.assign rfl) rfl ?_
        refine O.p (Pu.assign rfl) rfl ?_
        refine O.nil ?_
        refine J.nilRow 98 8 ?_
        exact J.ret (Fin.ret (rs := [.tmp 2, .tmp 3, .tmp 4]) rfl [_, _, _] ⟨rfl, rfl, rfl, trivial⟩ [0] (by decide) [row (Value.slice none 0 0) 98 8 (([] : List Ft).map Ft.cells)] rfl ⟨Value.slice none 0 0, (by rw [Ld.read_at hst ‹_› (by first | exact Ld.step_work ‹_› ‹_› (by omega) ‹_› | (rw [Ld.step_some ‹_› ‹_›]; simp_all [Ld.ruled, Ld.may, Ld.does, Ld.isOpen_or, Ld.there, Ld.fresh]; done) | (rw [Ld.step_none ‹_›]; simp_all [Ld.ruled, Ld.fresh]; done))]; rfl), (by rw [Ld.read_at hst ‹_› (by first | exact Ld.step_work ‹_› ‹_› (by omega) ‹_› | (rw [Ld.step_some ‹_› ‹_›]; simp_all [Ld.ruled, Ld.may, Ld.does, Ld.isOpen_or, Ld.there, Ld.fresh]; done) | (rw [Ld.step_none ‹_›]; simp_all [Ld.ruled, Ld.fresh]; done))])⟩)
       ·
        have h152 : (!(decide (e9.state = 3))) = true := not_flip h148
        have h153 : (decide (e9.state = 3)) = false := not_flip h152
        have p154 := of_decide_eq_false h153
        refine J.skip ?_
        refine J.blk ?_
        refine J.region ?_
        refine O.p (Pu.move rfl) rfl ?_
        refine O.p (Pu.add' rfl rfl (by first | omega | (simp only [List.length_append, List.length_cons, List.length_nil, List.length_set]; omega))) rfl ?_
        refine O.p (Pu.assign rfl) rfl ?_
        refine O.nil ?_
        exact J.lp ⟨k + 1, V147, out ++ ([(⟨e4.s, e4.id, 2, e4.a, e4.code, e4.tick, 0, 0⟩ : Ft)])⟩ (show (k + 1) ≤ l.length ∧ Ld.readU l (k + 1) = some (out ++ ([(⟨e4.s, e4.id, 2, e4.a, e4.code, e4.tick, 0, 0⟩ : Ft)])) ∧ (out ++ ([(⟨e4.s, e4.id, 2, e4.a, e4.code, e4.tick, 0, 0⟩ : Ft)])).length ≤ (k + 1) from ⟨by omega, (by rw [Ld.readU_succ hst ‹_›]; exact (by first | exact Ld.step_work ‹_› ‹_› (by omega) ‹_› | (rw [Ld.step_some ‹_› ‹_›]; simp_all [Ld.ruled, Ld.may, Ld.does, Ld.isOpen_or, Ld.there, Ld.fresh]; done) | (rw [Ld.step_none ‹_›]; simp_all [Ld.ruled, Ld.fresh]; done))), by first | omega | (simp only [List.length_append, List.length_singleton, List.length_set]; omega)⟩) (show l.length - (k + 1) < l.length - k from (by first | omega | exact (Ld.lastZ_lt ‹_›).1 | exact (Ld.lastZ_lt ‹_›).2.1 | (simp only [List.length_append, List.length_cons, List.length_nil, List.length_set]; omega) | (simp only [List.length_set]; exact (Ld.lastZ_lt ‹_›).1) | (simp only [List.length_set]; exact (Ld.lastZ_lt ‹_›).2.1))) ⟨rfl, rfl, (congrArg (fun z => some (Value.int .i64 z)) (by first | rfl | omega : ((k : Int) + 1 : Int) = ((k + 1) : Int))), trivial⟩ [3] (by decide) rfl
     ·
      have p155 := of_decide_eq_false h131
      refine J.seq ?_
      refine J.region ?_
      refine O.p (Pu.eql rfl rfl) rfl ?_
      refine O.p (Pu.assign rfl) rfl ?_
      refine O.nil ?_
      refine J.cond rfl (fun h156 => ?_) (fun h156 => ?_)
      ·
       have p157 := of_decide_eq_true h156
       refine J.seq ?_
       refine J.region ?_
       refine O.p (Pu.move rfl) rfl ?_
       refine O.p (Pu.eql rfl rfl) rfl ?_
       refine O.p (Pu.assign rfl) rfl ?_
       refine O.nil ?_
       refine J.seq ?_
       refine J.region ?_
       refine O.p (Pu.move rfl) rfl ?_
       refine O.nil ?_
       refine J.condF rfl h76 ?_
       refine J.skip ?_
       refine J.blk ?_
       refine J.seq ?_
       refine J.region ?_
       refine O.p (Pu.move rfl) rfl ?_
       refine O.p (Pu.not rfl) rfl ?_
       refine O.nil ?_
       refine J.condT rfl (not_of_false h76) ?_
       refine J.seq ?_
       refine J.region ?_
       refine O.p (Pu.move rfl) rfl ?_
       refine O.p (Pu.assign rfl) rfl ?_
       refine O.p (Pu.assign rfl) rfl ?_
       refine O.p (Pu.assign rfl) rfl ?_
       refine O.nil ?_
       refine J.nilRow 98 8 ?_
       exact J.ret (Fin.ret (rs := [.tmp 2, .tmp 3, .tmp 4]) rfl [_, _, _] ⟨rfl, rfl, rfl, trivial⟩ [0] (by decide) [row (Value.slice none 0 0) 98 8 (([] : List Ft).map Ft.cells)] rfl ⟨Value.slice none 0 0, (by rw [Ld.read_at hst ‹_› (by first | exact Ld.step_work ‹_› ‹_› (by omega) ‹_› | (rw [Ld.step_some ‹_› ‹_›]; simp_all [Ld.ruled, Ld.may, Ld.does, Ld.isOpen_or, Ld.there, Ld.fresh]; done) | (rw [Ld.step_none ‹_›]; simp_all [Ld.ruled, Ld.fresh]; done))]; rfl), (by rw [Ld.read_at hst ‹_› (by first | exact Ld.step_work ‹_› ‹_› (by omega) ‹_› | (rw [Ld.step_some ‹_› ‹_›]; simp_all [Ld.ruled, Ld.may, Ld.does, Ld.isOpen_or, Ld.there, Ld.fresh]; done) | (rw [Ld.step_none ‹_›]; simp_all [Ld.ruled, Ld.fresh]; done))])⟩)
      ·
       have p158 := of_decide_eq_false h156
       refine J.seq ?_
       refine J.region ?_
       refine O.p (Pu.eql rfl rfl) rfl ?_
       refine O.p (Pu.assign rfl) rfl ?_
       refine O.nil ?_
       refine J.cond rfl (fun h159 => ?_) (fun h159 => ?_)
       ·
        have p160 := of_decide_eq_true h159
        refine J.seq ?_
        refine J.region ?_
        refine O.p (Pu.move rfl) rfl ?_
        refine O.p (Pu.move rfl) rfl ?_
        refine by_bool (decide (e9.state = 3)) (fun h161 => ?_) (fun h161 => ?_)
        ·
         have p162 := of_decide_eq_true h161
         refine O.gq (t := 95) rfl rfl h161 rfl (Pu.qt (Pu.move rfl)) rfl ?_
         refine O.gq (t := 95) rfl rfl h161 rfl (Pu.qt (Pu.neq rfl rfl)) rfl ?_
         refine O.gq (t := 95) rfl rfl h161 rfl (Pu.qt (Pu.move rfl)) rfl ?_
         refine by_bool (decide (e9.state ≠ 1)) (fun h163 => ?_) (fun h163 => ?_)
         ·
          have p164 := of_decide_eq_true h163
          refine O.gskip (t := 98) rfl rfl (no_bool (by rw [h163]; decide)) rfl rfl ?_
          refine O.gskip (t := 98) rfl rfl (no_bool (by rw [h163]; decide)) rfl rfl ?_
          refine O.gskip (t := 98) rfl rfl (no_bool (by rw [h163]; decide)) rfl rfl ?_
          refine O.gskip (t := 98) rfl rfl (no_bool (by rw [h163]; decide)) rfl rfl ?_
          refine O.gq (t := 95) rfl rfl h161 rfl (Pu.qt (Pu.pickT rfl h163 rfl)) rfl ?_
          refine O.p (Pu.pickT rfl h161 rfl) rfl ?_
          refine O.p (Pu.assign rfl) rfl ?_
          refine O.nil ?_
          refine J.seq ?_
          refine J.region ?_
          refine O.p (Pu.move rfl) rfl ?_
          refine O.nil ?_
          refine J.condT rfl rfl ?_
          refine J.seq ?_
          refine J.region ?_
          refine O.p (Pu.move rfl) rfl ?_
          refine O.p (Pu.move rfl) rfl ?_
          refine O.q (Qt.idxM Tryd.runUnderlying88 Tryd.sizeOf98 rfl (Src.row 1 rfl) rfl (by first | omega | exact (Ld.lastZ_lt ‹_›).1 | exact (Ld.lastZ_lt ‹_›).2.1 | (simp only [List.length_append, List.length_cons, List.length_nil, List.length_set]; omega) | (simp only [List.length_set]; exact (Ld.lastZ_lt ‹_›).1) | (simp only [List.length_set]; exact (Ld.lastZ_lt ‹_›).2.1)) (by first | omega | exact (Ld.lastZ_lt ‹_›).1 | exact (Ld.lastZ_lt ‹_›).2.1 | (simp only [List.length_append, List.length_cons, List.length_nil, List.length_set]; omega) | (simp only [List.length_set]; exact (Ld.lastZ_lt ‹_›).1) | (simp only [List.length_set]; exact (Ld.lastZ_lt ‹_›).2.1))) rfl ?_
          refine O.p (Pu.fieldAddr (off' := voff V + (Ld.lastZ out e4.s e4.id).toNat * 8 + 2) Tryd.runUnderlying98 rfl Tryd.sizeOf3 rfl rfl rfl) rfl ?_
          refine O.l0 (Lo.storeM 1 (j := (Ld.lastZ out e4.s e4.id).toNat) (off := 2) (vs := [.int .i64 4]) (e := [.int .i64 e9.s, .int .i64 e9.id, .int .i64 e9.state, .int .i64 e9.level, .int .i64 e9.code, .int .i64 e9.came, .int .i64 e9.began, .int .i64 e9.ended]) ({ e9 with state := 4 }) rfl rfl rfl rfl (by omega) he9 rfl (by exact Tryd.sizeOf3) rfl rfl rfl rfl rfl) ?_
          rintro _ _ rfl
          have hs165 : (out.set (Ld.lastZ out e4.s e4.id).toNat ({ e9 with state := 4 }))[(Ld.lastZ out e4.s e4.id).toNat]? = some ({ e9 with state := 4 }) := List.getElem?_set_self (List.getElem?_eq_some_iff.1 he9).1
          refine O.nil ?_
          refine J.seq ?_
          refine J.region ?_
          refine O.p (Pu.move rfl) rfl ?_
          refine O.p (Pu.move rfl) rfl ?_
          refine O.p (Pu.fieldAddr (off' := 4) Tryd.runUnderlying83 rfl Tryd.sizeOf3 rfl rfl rfl) rfl ?_
          refine O.q (Qt.ld rfl (Cel.var 0 rfl) (o := 0) (off := 4) rfl (Cut.one Tryd.isAgg3 rfl)) rfl ?_
          refine O.q (Qt.idxM Tryd.runUnderlying88 Tryd.sizeOf98 rfl (Src.row 1 rfl) rfl (by first | omega | exact (Ld.lastZ_lt ‹_›).1 | exact (Ld.lastZ_lt ‹_›).2.1 | (simp only [List.length_append, List.length_cons, List.length_nil, List.length_set]; omega) | (simp only [List.length_set]; exact (Ld.lastZ_lt ‹_›).1) | (simp only [List.length_set]; exact (Ld.lastZ_lt ‹_›).2.1)) (by first | omega | exact (Ld.lastZ_lt ‹_›).1 | exact (Ld.lastZ_lt ‹_›).2.1 | (simp only [List.length_append, List.length_cons, List.length_nil, List.length_set]; omega) | (simp only [List.length_set]; exact (Ld.lastZ_lt ‹_›).1) | (simp only [List.length_set]; exact (Ld.lastZ_lt ‹_›).2.1))) rfl ?_
          refine O.p (Pu.fieldAddr (off' := voff V + (Ld.lastZ out e4.s e4.id).toNat * 8 + 4) Tryd.runUnderlying98 rfl Tryd.sizeOf3 rfl rfl rfl) rfl ?_
          refine O.l0 (Lo.storeM 1 (j := (Ld.lastZ out e4.s e4.id).toNat) (off := 4) (vs := [.int .i64 e4.code]) (e := [.int .i64 (({ e9 with state := 4 }).s), .int .i64 (({ e9 with state := 4 }).id), .int .i64 (({ e9 with state := 4 }).state), .int .i64 (({ e9 with state := 4 }).level), .int .i64 (({ e9 with state := 4 }).code), .int .i64 (({ e9 with state := 4 }).came), .int .i64 (({ e9 with state := 4 }).began), .int .i64 (({ e9 with state := 4 }).ended)]) ({ { e9 with state := 4 } with code := e4.code }) rfl rfl rfl rfl (by omega) hs165 rfl (by exact Tryd.sizeOf3) rfl rfl rfl rfl rfl) ?_
          rintro _ _ rfl
          have hs166 : ((out.set (Ld.lastZ out e4.s e4.id).toNat ({ e9 with state := 4 })).set (Ld.lastZ out e4.s e4.id).toNat ({ { e9 with state := 4 } with code := e4.code }))[(Ld.lastZ out e4.s e4.id).toNat]? = some ({ { e9 with state := 4 } with code := e4.code }) := List.getElem?_set_self (List.getElem?_eq_some_iff.1 hs165).1
          refine O.nil ?_
          refine J.region ?_
          refine O.p (Pu.move rfl) rfl ?_
          refine O.p (Pu.move rfl) rfl ?_
          refine O.p (Pu.fieldAddr (off' := 1) Tryd.runUnderlying83 rfl Tryd.sizeOf3 rfl rfl rfl) rfl ?_
          refine O.q (Qt.ld rfl (Cel.var 0 rfl) (o := 0) (off := 1) rfl (Cut.one Tryd.isAgg3 rfl)) rfl ?_
          refine O.q (Qt.idxM Tryd.runUnderlying88 Tryd.sizeOf98 rfl (Src.row 1 rfl) rfl (by first | omega | exact (Ld.lastZ_lt ‹_›).1 | exact (Ld.lastZ_lt ‹_›).2.1 | (simp only [List.length_append, List.length_cons, List.length_nil, List.length_set]; omega) | (simp only [List.length_set]; exact (Ld.lastZ_lt ‹_›).1) | (simp only [List.length_set]; exact (Ld.lastZ_lt ‹_›).2.1)) (by first | omega | exact (Ld.lastZ_lt ‹_›).1 | exact (Ld.lastZ_lt ‹_›).2.1 | (simp only [List.length_append, List.length_cons, List.length_nil, List.length_set]; omega) | (simp only [List.length_set]; exact (Ld.lastZ_lt ‹_›).1) | (simp only [List.length_set]; exact (Ld.lastZ_lt ‹_›).2.1))) rfl ?_
          refine O.p (Pu.fieldAddr (off' := voff V + (Ld.lastZ out e4.s e4.id).toNat * 8 + 7) Tryd.runUnderlying98 rfl Tryd.sizeOf3 rfl rfl rfl) rfl ?_
          refine O.l0 (Lo.storeM 1 (j := (Ld.lastZ out e4.s e4.id).toNat) (off := 7) (vs := [.int .i64 e4.tick]) (e := [.int .i64 (({ { e9 with state := 4 } with code := e4.code }).s), .int .i64 (({ { e9 with state := 4 } with code := e4.code }).id), .int .i64 (({ { e9 with state := 4 } with code := e4.code }).state), .int .i64 (({ { e9 with state := 4 } with code := e4.code }).level), .int .i64 (({ { e9 with state := 4 } with code := e4.code }).code), .int .i64 (({ { e9 with state := 4 } with code := e4.code }).came), .int .i64 (({ { e9 with state := 4 } with code := e4.code }).began), .int .i64 (({ { e9 with state := 4 } with code := e4.code }).ended)]) ({ { { e9 with state := 4 } with code := e4.code } with ended := e4.tick }) rfl rfl rfl rfl (by omega) hs166 rfl (by exact Tryd.sizeOf3) rfl rfl rfl rfl rfl) ?_
          rintro _ _ rfl
          have hs167 : (((out.set (Ld.lastZ out e4.s e4.id).toNat ({ e9 with state := 4 })).set (Ld.lastZ out e4.s e4.id).toNat ({ { e9 with state := 4 } with code := e4.code })).set (Ld.lastZ out e4.s e4.id).toNat ({ { { e9 with state := 4 } with code := e4.code } with ended := e4.tick }))[(Ld.lastZ out e4.s e4.id).toNat]? = some ({ { { e9 with state := 4 } with code := e4.code } with ended := e4.tick }) := List.getElem?_set_self (List.getElem?_eq_some_iff.1 hs166).1
          refine O.nil ?_
          refine J.blk ?_
          refine J.seq ?_
          refine J.region ?_
          refine O.p (Pu.move rfl) rfl ?_
          refine O.p (Pu.not rfl) rfl ?_
          refine O.nil ?_
          refine J.condF rfl rfl ?_
          refine J.skip ?_
          refine J.blk ?_
          refine J.region ?_
          refine O.p (Pu.move rfl) rfl ?_
          refine O.p (Pu.add' rfl rfl (by first | omega | (simp only [List.length_append, List.length_cons, List.length_nil, List.length_set]; omega))) rfl ?_
          refine O.p (Pu.assign rfl) rfl ?_
          refine O.nil ?_
          exact J.lp ⟨k + 1, V, ((out.set (Ld.lastZ out e4.s e4.id).toNat ({ e9 with state := 4 })).set (Ld.lastZ out e4.s e4.id).toNat ({ { e9 with state := 4 } with code := e4.code })).set (Ld.lastZ out e4.s e4.id).toNat ({ { { e9 with state := 4 } with code := e4.code } with ended := e4.tick })⟩ (show (k + 1) ≤ l.length ∧ Ld.readU l (k + 1) = some (((out.set (Ld.lastZ out e4.s e4.id).toNat ({ e9 with state := 4 })).set (Ld.lastZ out e4.s e4.id).toNat ({ { e9 with state := 4 } with code := e4.code })).set (Ld.lastZ out e4.s e4.id).toNat ({ { { e9 with state := 4 } with code := e4.code } with ended := e4.tick })) ∧ (((out.set (Ld.lastZ out e4.s e4.id).toNat ({ e9 with state := 4 })).set (Ld.lastZ out e4.s e4.id).toNat ({ { e9 with state := 4 } with code := e4.code })).set (Ld.lastZ out e4.s e4.id).toNat ({ { { e9 with state := 4 } with code := e4.code } with ended := e4.tick })).length ≤ (k + 1) from ⟨by omega, (by rw [Ld.readU_succ hst ‹_›]; exact (by first | exact Ld.step_work ‹_› ‹_› (by omega) ‹_› | (rw [Ld.step_some ‹_› ‹_›]; simp_all [Ld.ruled, Ld.may, Ld.does, Ld.isOpen_or, Ld.there, Ld.fresh]; done) | (rw [Ld.step_none ‹_›]; simp_all [Ld.ruled, Ld.fresh]; done))), by first | omega | (simp only [List.length_append, List.length_singleton, List.length_set]; omega)⟩) (show l.length - (k + 1) < l.length - k from (by first | omega | exact (Ld.lastZ_lt ‹_›).1 | exact (Ld.lastZ_lt ‹_›).2.1 | (simp only [List.length_append, List.length_cons, List.length_nil, List.length_set]; omega) | (simp only [List.length_set]; exact (Ld.lastZ_lt ‹_›).1) | (simp only [List.length_set]; exact (Ld.lastZ_lt ‹_›).2.1))) ⟨rfl, rfl, (congrArg (fun z => some (Value.int .i64 z)) (by first | rfl | omega : ((k : Int) + 1 : Int) = ((k + 1) : Int))), trivial⟩ [1] (by decide) rfl
         ·
          have p168 := of_decide_eq_false h163
          refine O.gq (t := 98) rfl rfl h163 rfl (Pu.qt (Pu.move rfl)) rfl ?_
          refine O.gq (t := 98) rfl rfl h163 rfl (Pu.qt (Pu.fieldAddr (off' := 4) Tryd.runUnderlying83 rfl Tryd.sizeOf3 rfl rfl rfl)) rfl ?_
          refine O.gq (t := 98) rfl rfl h163 rfl (Qt.ld rfl (Cel.var 0 rfl) (o := 0) (off := 4) rfl (Cut.one Tryd.isAgg3 rfl)) rfl ?_
          refine O.gq (t := 98) rfl rfl h163 rfl (Pu.qt (Pu.eql rfl rfl)) rfl ?_
          refine O.gq (t := 95) rfl rfl h161 rfl (Pu.qt (Pu.pickF rfl h163 rfl)) rfl ?_
          refine O.p (Pu.pickT rfl h161 rfl) rfl ?_
          refine O.p (Pu.assign rfl) rfl ?_
          refine O.nil ?_
          refine J.seq ?_
          refine J.region ?_
          refine O.p (Pu.move rfl) rfl ?_
          refine O.nil ?_
          refine J.cond rfl (fun h169 => ?_) (fun h169 => ?_)
          ·
           have p170 := of_decide_eq_true h169
           refine J.seq ?_
           refine J.region ?_
           refine O.p (Pu.move rfl) rfl ?_
           refine O.p (Pu.move rfl) rfl ?_
           refine O.q (Qt.idxM Tryd.runUnderlying88 Tryd.sizeOf98 rfl (Src.row 1 rfl) rfl (by first | omega | exact (Ld.lastZ_lt ‹_›).1 | exact (Ld.lastZ_lt ‹_›).2.1 | (simp only [List.length_append, List.length_cons, List.length_nil, List.length_set]; omega) | (simp only [List.length_set]; exact (Ld.lastZ_lt ‹_›).1) | (simp only [List.length_set]; exact (Ld.lastZ_lt ‹_›).2.1)) (by first | omega | exact (Ld.lastZ_lt ‹_›).1 | exact (Ld.lastZ_lt ‹_›).2.1 | (simp only [List.length_append, List.length_cons, List.length_nil, List.length_set]; omega) | (simp only [List.length_set]; exact (Ld.lastZ_lt ‹_›).1) | (simp only [List.length_set]; exact (Ld.lastZ_lt ‹_›).2.1))) rfl ?_
           refine O.p (Pu.fieldAddr (off' := voff V + (Ld.lastZ out e4.s e4.id).toNat * 8 + 2) Tryd.runUnderlying98 rfl Tryd.sizeOf3 rfl rfl rfl) rfl ?_
           refine O.l0 (Lo.storeM 1 (j := (Ld.lastZ out e4.s e4.id).toNat) (off := 2) (vs := [.int .i64 4]) (e := [.int .i64 e9.s, .int .i64 e9.id, .int .i64 e9.state, .int .i64 e9.level, .int .i64 e9.code, .int .i64 e9.came, .int .i64 e9.began, .int .i64 e9.ended]) ({ e9 with state := 4 }) rfl rfl rfl rfl (by omega) he9 rfl (by exact Tryd.sizeOf3) rfl rfl rfl rfl rfl) ?_
           rintro _ _ rfl
           have hs171 : (out.set (Ld.lastZ out e4.s e4.id).toNat ({ e9 with state := 4 }))[(Ld.lastZ out e4.s e4.id).toNat]? = some ({ e9 with state := 4 }) := List.getElem?_set_self (List.getElem?_eq_some_iff.1 he9).1
           refine O.nil ?_
           refine J.seq ?_
           refine J.region ?_
           refine O.p (Pu.move rfl) rfl ?_
           refine O.p (Pu.move rfl) rfl ?_
           refine O.p (Pu.fieldAddr (off' := 4) Tryd.runUnderlying83 rfl Tryd.sizeOf3 rfl rfl rfl) rfl ?_
           refine O.q (Qt.ld rfl (Cel.var 0 rfl) (o := 0) (off := 4) rfl (Cut.one Tryd.isAgg3 rfl)) rfl ?_
           refine O.q (Qt.idxM Tryd.runUnderlying88 Tryd.sizeOf98 rfl (Src.row 1 rfl) rfl (by first | omega | exact (Ld.lastZ_lt ‹_›).1 | exact (Ld.lastZ_lt ‹_›).2.1 | (simp only [List.length_append, List.length_cons, List.length_nil, List.length_set]; omega) | (simp only [List.length_set]; exact (Ld.lastZ_lt ‹_›).1) | (simp only [List.length_set]; exact (Ld.lastZ_lt ‹_›).2.1)) (by first | omega | exact (Ld.lastZ_lt ‹_›).1 | exact (Ld.lastZ_lt ‹_›).2.1 | (simp only [List.length_append, List.length_cons, List.length_nil, List.length_set]; omega) | (simp only [List.length_set]; exact (Ld.lastZ_lt ‹_›).1) | (simp only [List.length_set]; exact (Ld.lastZ_lt ‹_›).2.1))) rfl ?_
           refine O.p (Pu.fieldAddr (off' := voff V + (Ld.lastZ out e4.s e4.id).toNat * 8 + 4) Tryd.runUnderlying98 rfl Tryd.sizeOf3 rfl rfl rfl) rfl ?_
           refine O.l0 (Lo.storeM 1 (j := (Ld.lastZ out e4.s e4.id).toNat) (off := 4) (vs := [.int .i64 e4.code]) (e := [.int .i64 (({ e9 with state := 4 }).s), .int .i64 (({ e9 with state := 4 }).id), .int .i64 (({ e9 with state := 4 }).state), .int .i64 (({ e9 with state := 4 }).level), .int .i64 (({ e9 with state := 4 }).code), .int .i64 (({ e9 with state := 4 }).came), .int .i64 (({ e9 with state := 4 }).began), .int .i64 (({ e9 with state := 4 }).ended)]) ({ { e9 with state := 4 } with code := e4.code }) rfl rfl rfl rfl (by omega) hs171 rfl (by exact Tryd.sizeOf3) rfl rfl rfl rfl rfl) ?_
           rintro _ _ rfl
           have hs172 : ((out.set (Ld.lastZ out e4.s e4.id).toNat ({ e9 with state := 4 })).set (Ld.lastZ out e4.s e4.id).toNat ({ { e9 with state := 4 } with code := e4.code }))[(Ld.lastZ out e4.s e4.id).toNat]? = some ({ { e9 with state := 4 } with code := e4.code }) := List.getElem?_set_self (List.getElem?_eq_some_iff.1 hs171).1
           refine O.nil ?_
           refine J.region ?_
           refine O.p (Pu.move rfl) rfl ?_
           refine O.p (Pu.move rfl) rfl ?_
           refine O.p (Pu.fieldAddr (off' := 1) Tryd.runUnderlying83 rfl Tryd.sizeOf3 rfl rfl rfl) rfl ?_
           refine O.q (Qt.ld rfl (Cel.var 0 rfl) (o := 0) (off := 1) rfl (Cut.one Tryd.isAgg3 rfl)) rfl ?_
           refine O.q (Qt.idxM Tryd.runUnderlying88 Tryd.sizeOf98 rfl (Src.row 1 rfl) rfl (by first | omega | exact (Ld.lastZ_lt ‹_›).1 | exact (Ld.lastZ_lt ‹_›).2.1 | (simp only [List.length_append, List.length_cons, List.length_nil, List.length_set]; omega) | (simp only [List.length_set]; exact (Ld.lastZ_lt ‹_›).1) | (simp only [List.length_set]; exact (Ld.lastZ_lt ‹_›).2.1)) (by first | omega | exact (Ld.lastZ_lt ‹_›).1 | exact (Ld.lastZ_lt ‹_›).2.1 | (simp only [List.length_append, List.length_cons, List.length_nil, List.length_set]; omega) | (simp only [List.length_set]; exact (Ld.lastZ_lt ‹_›).1) | (simp only [List.length_set]; exact (Ld.lastZ_lt ‹_›).2.1))) rfl ?_
           refine O.p (Pu.fieldAddr (off' := voff V + (Ld.lastZ out e4.s e4.id).toNat * 8 + 7) Tryd.runUnderlying98 rfl Tryd.sizeOf3 rfl rfl rfl) rfl ?_
           refine O.l0 (Lo.storeM 1 (j := (Ld.lastZ out e4.s e4.id).toNat) (off := 7) (vs := [.int .i64 e4.tick]) (e := [.int .i64 (({ { e9 with state := 4 } with code := e4.code }).s), .int .i64 (({ { e9 with state := 4 } with code := e4.code }).id), .int .i64 (({ { e9 with state := 4 } with code := e4.code }).state), .int .i64 (({ { e9 with state := 4 } with code := e4.code }).level), .int .i64 (({ { e9 with state := 4 } with code := e4.code }).code), .int .i64 (({ { e9 with state := 4 } with code := e4.code }).came), .int .i64 (({ { e9 with state := 4 } with code := e4.code }).began), .int .i64 (({ { e9 with state := 4 } with code := e4.code }).ended)]) ({ { { e9 with state := 4 } with code := e4.code } with ended := e4.tick }) rfl rfl rfl rfl (by omega) hs172 rfl (by exact Tryd.sizeOf3) rfl rfl rfl rfl rfl) ?_
           rintro _ _ rfl
           have hs173 : (((out.set (Ld.lastZ out e4.s e4.id).toNat ({ e9 with state := 4 })).set (Ld.lastZ out e4.s e4.id).toNat ({ { e9 with state := 4 } with code := e4.code })).set (Ld.lastZ out e4.s e4.id).toNat ({ { { e9 with state := 4 } with code := e4.code } with ended := e4.tick }))[(Ld.lastZ out e4.s e4.id).toNat]? = some ({ { { e9 with state := 4 } with code := e4.code } with ended := e4.tick }) := List.getElem?_set_self (List.getElem?_eq_some_iff.1 hs172).1
           refine O.nil ?_
           refine J.blk ?_
           refine J.seq ?_
           refine J.region ?_
           refine O.p (Pu.move rfl) rfl ?_
           refine O.p (Pu.not rfl) rfl ?_
           refine O.nil ?_
           refine J.condF rfl (not_of_true h169) ?_
           refine J.skip ?_
           refine J.blk ?_
           refine J.region ?_
           refine O.p (Pu.move rfl) rfl ?_
           refine O.p (Pu.add' rfl rfl (by first | omega | (simp only [List.length_append, List.length_cons, List.length_nil, List.length_set]; omega))) rfl ?_
           refine O.p (Pu.assign rfl) rfl ?_
           refine O.nil ?_
           exact J.lp ⟨k + 1, V, ((out.set (Ld.lastZ out e4.s e4.id).toNat ({ e9 with state := 4 })).set (Ld.lastZ out e4.s e4.id).toNat ({ { e9 with state := 4 } with code := e4.code })).set (Ld.lastZ out e4.s e4.id).toNat ({ { { e9 with state := 4 } with code := e4.code } with ended := e4.tick })⟩ (show (k + 1) ≤ l.length ∧ Ld.readU l (k + 1) = some (((out.set (Ld.lastZ out e4.s e4.id).toNat ({ e9 with state := 4 })).set (Ld.lastZ out e4.s e4.id).toNat ({ { e9 with state := 4 } with code := e4.code })).set (Ld.lastZ out e4.s e4.id).toNat ({ { { e9 with state := 4 } with code := e4.code } with ended := e4.tick })) ∧ (((out.set (Ld.lastZ out e4.s e4.id).toNat ({ e9 with state := 4 })).set (Ld.lastZ out e4.s e4.id).toNat ({ { e9 with state := 4 } with code := e4.code })).set (Ld.lastZ out e4.s e4.id).toNat ({ { { e9 with state := 4 } with code := e4.code } with ended := e4.tick })).length ≤ (k + 1) from ⟨by omega, (by rw [Ld.readU_succ hst ‹_›]; exact (by first | exact Ld.step_work ‹_› ‹_› (by omega) ‹_› | (rw [Ld.step_some ‹_› ‹_›]; simp_all [Ld.ruled, Ld.may, Ld.does, Ld.isOpen_or, Ld.there, Ld.fresh]; done) | (rw [Ld.step_none ‹_›]; simp_all [Ld.ruled, Ld.fresh]; done))), by first | omega | (simp only [List.length_append, List.length_singleton, List.length_set]; omega)⟩) (show l.length - (k + 1) < l.length - k from (by first | omega | exact (Ld.lastZ_lt ‹_›).1 | exact (Ld.lastZ_lt ‹_›).2.1 | (simp only [List.length_append, List.length_cons, List.length_nil, List.length_set]; omega) | (simp only [List.length_set]; exact (Ld.lastZ_lt ‹_›).1) | (simp only [List.length_set]; exact (Ld.lastZ_lt ‹_›).2.1))) ⟨rfl, rfl, (congrArg (fun z => some (Value.int .i64 z)) (by first | rfl | omega : ((k : Int) + 1 : Int) = ((k + 1) : Int))), trivial⟩ [1] (by decide) rfl
          ·
           have p174 := of_decide_eq_false h169
           refine J.skip ?_
           refine J.blk ?_
           refine J.seq ?_
           refine J.region ?_
           refine O.p (Pu.move rfl) rfl ?_
           refine O.p (Pu.not rfl) rfl ?_
           refine O.nil ?_
           refine J.condT rfl (not_of_false h169) ?_
           refine J.seq ?_
           refine J.region ?_
           refine O.p (Pu.move rfl) rfl ?_
           refine O.p (Pu.assign rfl) rfl ?_
           refine O.p (Pu.assign rfl) rfl ?_
           refine O.p (Pu.assign rfl) rfl ?_
           refine O.nil ?_
           refine J.nilRow 98 8 ?_
           exact J.ret (Fin.ret (rs := [.tmp 2, .tmp 3, .tmp 4]) rfl [_, _, _] ⟨rfl, rfl, rfl, trivial⟩ [0] (by decide) [row (Value.slice none 0 0) 98 8 (([] : List Ft).map Ft.cells)] rfl ⟨Value.slice none 0 0, (by rw [Ld.read_at hst ‹_› (by first | exact Ld.step_work ‹_› ‹_› (by omega) ‹_› | (rw [Ld.step_some ‹_› ‹_›]; simp_all [Ld.ruled, Ld.may, Ld.does, Ld.isOpen_or, Ld.there, Ld.fresh]; done) | (rw [Ld.step_none ‹_›]; simp_all [Ld.ruled, Ld.fresh]; done))]; rfl), (by rw [Ld.read_at hst ‹_› (by first | exact Ld.step_work ‹_› ‹_› (by omega) ‹_› | (rw [Ld.step_some ‹_› ‹_›]; simp_all [Ld.ruled, Ld.may, Ld.does, Ld.isOpen_or, Ld.there, Ld.fresh]; done) | (rw [Ld.step_none ‹_›]; simp_all [Ld.ruled, Ld.fresh]; done))])⟩)
        ·
         have p175 := of_decide_eq_false h161
         refine O.gskip (t := 95) rfl rfl (no_bool (by rw [h161]; decide)) rfl rfl ?_
         refine O.gskip (t := 95) rfl rfl (no_bool (by rw [h161]; decide)) rfl rfl ?_
         refine O.gskip (t := 95) rfl rfl (no_bool (by rw [h161]; decide)) rfl rfl ?_
         refine O.gskip (t := 98) rfl rfl (no_undef _) rfl rfl ?_
         refine O.gskip (t := 98) rfl rfl (no_undef _) rfl rfl ?_
         refine O.gskip (t := 98) rfl rfl (no_undef _) rfl rfl ?_
         refine O.gskip (t := 98) rfl rfl (no_undef _) rfl rfl ?_
         refine O.gskip (t := 95) rfl rfl (no_bool (by rw [h161]; decide)) rfl rfl ?_
         refine O.p (Pu.pickF rfl h161 rfl) rfl ?_
         refine O.p (Pu.assign rfl) rfl ?_
         refine O.nil ?_
         refine J.seq ?_
         refine J.region ?_
         refine O.p (Pu.move rfl) rfl ?_
         refine O.nil ?_
         refine J.condF rfl rfl ?_
         refine J.skip ?_
         refine J.blk ?_
         refine J.seq ?_
         refine J.region ?_
         refine O.p (Pu.move rfl) rfl ?_
         refine O.p (Pu.not rfl) rfl ?_
         refine O.nil ?_
         refine J.condT rfl rfl ?_
         refine J.seq ?_
         refine J.region ?_
         refine O.p (Pu.move rfl) rfl ?_
         refine O.p (Pu.assign rfl) rfl ?_
         refine O.p (Pu.assign rfl) rfl ?_
         refine O.p (Pu.assign rfl) rfl ?_
         refine O.nil ?_
         refine J.nilRow 98 8 ?_
         exact J.ret (Fin.ret (rs := [.tmp 2, .tmp 3, .tmp 4]) rfl [_, _, _] ⟨rfl, rfl, rfl, trivial⟩ [0] (by decide) [row (Value.slice none 0 0) 98 8 (([] : List Ft).map Ft.cells)] rfl ⟨Value.slice none 0 0, (by rw [Ld.read_at hst ‹_› (by first | exact Ld.step_work ‹_› ‹_› (by omega) ‹_› | (rw [Ld.step_some ‹_› ‹_›]; simp_all [Ld.ruled, Ld.may, Ld.does, Ld.isOpen_or, Ld.there, Ld.fresh]; done) | (rw [Ld.step_none ‹_›]; simp_all [Ld.ruled, Ld.fresh]; done))]; rfl), (by rw [Ld.read_at hst ‹_› (by first | exact Ld.step_work ‹_› ‹_› (by omega) ‹_› | (rw [Ld.step_some ‹_› ‹_›]; simp_all [Ld.ruled, Ld.may, Ld.does, Ld.isOpen_or, Ld.there, Ld.fresh]; done) | (rw [Ld.step_none ‹_›]; simp_all [Ld.ruled, Ld.fresh]; done))])⟩)
       ·
        have p176 := of_decide_eq_false h159
        refine J.seq ?_
        refine J.seq ?_
        refine J.region ?_
        refine O.p (Pu.eql rfl rfl) rfl ?_
        refine O.p (Pu.assign rfl) rfl ?_
        refine O.nil ?_
        refine J.cond rfl (fun h177 => ?_) (fun h177 => ?_)
        ·
         have p178 := of_decide_eq_true h177
         refine J.skip ?_
         refine J.condT rfl h177 ?_
         refine J.region ?_
         refine O.p (Pu.move rfl) rfl ?_
         refine O.p (Pu.eql rfl rfl) rfl ?_
         refine O.p (Pu.assign rfl) rfl ?_
         refine O.nil ?_
         refine J.blk ?_
         refine J.seq ?_
         refine J.region ?_
         refine O.p (Pu.move rfl) rfl ?_
         refine O.p (Pu.not rfl) rfl ?_
         refine O.nil ?_
         refine J.cond rfl (fun h179 => ?_) (fun h179 => ?_)
         ·
          have h180 : (decide (e9.state = 3)) = false := not_flip h179
          have p181 := of_decide_eq_false h180
          refine J.seq ?_
          refine J.region ?_
          refine O.p (Pu.move rfl) rfl ?_
          refine O.p (Pu.assign rfl) rfl ?_
          refine O.p (Pu.assign rfl) rfl ?_
          refine O.p (Pu.assign rfl) rfl ?_
          refine O.nil ?_
          refine J.nilRow 98 8 ?_
          exact J.ret (Fin.ret (rs := [.tmp 2, .tmp 3, .tmp 4]) rfl [_, _, _] ⟨rfl, rfl, rfl, trivial⟩ [0] (by decide) [row (Value.slice none 0 0) 98 8 (([] : List Ft).map Ft.cells)] rfl ⟨Value.slice none 0 0, (by rw [Ld.read_at hst ‹_› (by first | exact Ld.step_work ‹_› ‹_› (by omega) ‹_› | (rw [Ld.step_some ‹_› ‹_›]; simp_all [Ld.ruled, Ld.may, Ld.does, Ld.isOpen_or, Ld.there, Ld.fresh]; done) | (rw [Ld.step_none ‹_›]; simp_all [Ld.ruled, Ld.fresh]; done))]; rfl), (by rw [Ld.read_at hst ‹_› (by first | exact Ld.step_work ‹_› ‹_› (by omega) ‹_› | (rw [Ld.step_some ‹_› ‹_›]; simp_all [Ld.ruled, Ld.may, Ld.does, Ld.isOpen_or, Ld.there, Ld.fresh]; done) | (rw [Ld.step_none ‹_›]; simp_all [Ld.ruled, Ld.fresh]; done))])⟩)
         ·
          have h182 : (decide (e9.state = 3)) = true := not_flip h179
          have p183 := of_decide_eq_true h182
          refine J.skip ?_
          refine J.blk ?_
          refine J.region ?_
          refine O.p (Pu.move rfl) rfl ?_
          refine O.p (Pu.add' rfl rfl (by first | omega | (simp only [List.length_append, List.length_cons, List.length_nil, List.length_set]; omega))) rfl ?_
          refine O.p (Pu.assign rfl) rfl ?_
          refine O.nil ?_
          exact J.lp ⟨k + 1, V, out⟩ (show (k + 1) ≤ l.length ∧ Ld.readU l (k + 1) = some out ∧ out.length ≤ (k + 1) from ⟨by omega, (by rw [Ld.readU_succ hst ‹_›]; exact (by first | exact Ld.step_work ‹_› ‹_› (by omega) ‹_› | (rw [Ld.step_some ‹_› ‹_›]; simp_all [Ld.ruled, Ld.may, Ld.does, Ld.isOpen_or, Ld.there, Ld.fresh]; done) | (rw [Ld.step_none ‹_›]; simp_all [Ld.ruled, Ld.fresh]; done))), by first | omega | (simp only [List.length_append, List.length_singleton, List.length_set]; omega)⟩) (show l.length - (k + 1) < l.length - k from (by first | omega | exact (Ld.lastZ_lt ‹_›).1 | exact (Ld.lastZ_lt ‹_›).2.1 | (simp only [List.length_append, List.length_cons, List.length_nil, List.length_set]; omega) | (simp only [List.length_set]; exact (Ld.lastZ_lt ‹_›).1) | (simp only [List.length_set]; exact (Ld.lastZ_lt ‹_›).2.1))) ⟨rfl, rfl, (congrArg (fun z => some (Value.int .i64 z)) (by first | rfl | omega : ((k : Int) + 1 : Int) = ((k + 1) : Int))), trivial⟩ [1] (by decide) rfl
        ·
         have p184 := of_decide_eq_false h177
         refine J.region ?_
         refine O.p (Pu.eql rfl rfl) rfl ?_
         refine O.p (Pu.assign rfl) rfl ?_
         refine O.nil ?_
         refine J.cond rfl (fun h185 => ?_) (fun h185 => ?_)
         ·
          have p186 := of_decide_eq_true h185
          refine J.region ?_
          refine O.p (Pu.move rfl) rfl ?_
          refine O.p (Pu.eql rfl rfl) rfl ?_
          refine O.p (Pu.assign rfl) rfl ?_
          refine O.nil ?_
          refine J.blk ?_
          refine J.seq ?_
          refine J.region ?_
          refine O.p (Pu.move rfl) rfl ?_
          refine O.p (Pu.not rfl) rfl ?_
          refine O.nil ?_
          refine J.cond rfl (fun h187 => ?_) (fun h187 => ?_)
          ·
           have h188 : (decide (e9.state = 3)) = false := not_flip h187
           have p189 := of_decide_eq_false h188
           refine J.seq ?_
           refine J.region ?_
           refine O.p (Pu.move rfl) rfl ?_
           refine O.p (Pu.assign rfl) rfl ?_
           refine O.p (Pu.assign rfl) rfl ?_
           refine O.p (Pu.assign rfl) rfl ?_
           refine O.nil ?_
           refine J.nilRow 98 8 ?_
           exact J.ret (Fin.ret (rs := [.tmp 2, .tmp 3, .tmp 4]) rfl [_, _, _] ⟨rfl, rfl, rfl, trivial⟩ [0] (by decide) [row (Value.slice none 0 0) 98 8 (([] : List Ft).map Ft.cells)] rfl ⟨Value.slice none 0 0, (by rw [Ld.read_at hst ‹_› (by first | exact Ld.step_work ‹_› ‹_› (by omega) ‹_› | (rw [Ld.step_some ‹_› ‹_›]; simp_all [Ld.ruled, Ld.may, Ld.does, Ld.isOpen_or, Ld.there, Ld.fresh]; done) | (rw [Ld.step_none ‹_›]; simp_all [Ld.ruled, Ld.fresh]; done))]; rfl), (by rw [Ld.read_at hst ‹_› (by first | exact Ld.step_work ‹_› ‹_› (by omega) ‹_› | (rw [Ld.step_some ‹_› ‹_›]; simp_all [Ld.ruled, Ld.may, Ld.does, Ld.isOpen_or, Ld.there, Ld.fresh]; done) | (rw [Ld.step_none ‹_›]; simp_all [Ld.ruled, Ld.fresh]; done))])⟩)
          ·
           have h190 : (decide (e9.state = 3)) = true := not_flip h187
           have p191 := of_decide_eq_true h190
           refine J.skip ?_
           refine J.blk ?_
           refine J.region ?_
           refine O.p (Pu.move rfl) rfl ?_
           refine O.p (Pu.add' rfl rfl (by first | omega | (simp only [List.length_append, List.length_cons, List.length_nil, List.length_set]; omega))) rfl ?_
           refine O.p (Pu.assign rfl) rfl ?_
           refine O.nil ?_
           exact J.lp ⟨k + 1, V, out⟩ (show (k + 1) ≤ l.length ∧ Ld.readU l (k + 1) = some out ∧ out.length ≤ (k + 1) from ⟨by omega, (by rw [Ld.readU_succ hst ‹_›]; exact (by first | exact Ld.step_work ‹_› ‹_› (by omega) ‹_› | (rw [Ld.step_some ‹_› ‹_›]; simp_all [Ld.ruled, Ld.may, Ld.does, Ld.isOpen_or, Ld.there, Ld.fresh]; done) | (rw [Ld.step_none ‹_›]; simp_all [Ld.ruled, Ld.fresh]; done))), by first | omega | (simp only [List.length_append, List.length_singleton, List.length_set]; omega)⟩) (show l.length - (k + 1) < l.length - k from (by first | omega | exact (Ld.lastZ_lt ‹_›).1 | exact (Ld.lastZ_lt ‹_›).2.1 | (simp only [List.length_append, List.length_cons, List.length_nil, List.length_set]; omega) | (simp only [List.length_set]; exact (Ld.lastZ_lt ‹_›).1) | (simp only [List.length_set]; exact (Ld.lastZ_lt ‹_›).2.1))) ⟨rfl, rfl, (congrArg (fun z => some (Value.int .i64 z)) (by first | rfl | omega : ((k : Int) + 1 : Int) = ((k + 1) : Int))), trivial⟩ [1] (by decide) rfl
         ·
          have p192 := of_decide_eq_false h185
          refine J.seq ?_
          refine J.region ?_
          refine O.p (Pu.eql rfl rfl) rfl ?_
          refine O.p (Pu.assign rfl) rfl ?_
          refine O.nil ?_
          refine J.cond rfl (fun h193 => ?_) (fun h193 => ?_)
          ·
           have p194 := of_decide_eq_true h193
           refine J.seq ?_
           refine J.region ?_
           refine O.p (Pu.move rfl) rfl ?_
           refine O.p (Pu.eql rfl rfl) rfl ?_
           refine O.p (Pu.move rfl) rfl ?_
           refine O.gq (t := 131) rfl rfl h76 rfl (Pu.qt (Pu.move rfl)) rfl ?_
           refine O.gq (t := 131) rfl rfl h76 rfl (Pu.qt (Pu.eql rfl rfl)) rfl ?_
           refine O.p (Pu.pickF rfl h76 rfl) rfl ?_
           refine O.p (Pu.assign rfl) rfl ?_
           refine O.nil ?_
           refine J.seq ?_
           refine J.region ?_
           refine O.p (Pu.move rfl) rfl ?_
           refine O.nil ?_
           refine J.cond rfl (fun h195 => ?_) (fun h195 => ?_)
           ·
            have p196 := of_decide_eq_true h195
            refine J.seq ?_
            refine J.region ?_
            refine O.p (Pu.move rfl) rfl ?_
            refine O.p (Pu.move rfl) rfl ?_
            refine O.q (Qt.idxM Tryd.runUnderlying88 Tryd.sizeOf98 rfl (Src.row 1 rfl) rfl (by first | omega | exact (Ld.lastZ_lt ‹_›).1 | exact (Ld.lastZ_lt ‹_›).2.1 | (simp only [List.length_append, List.length_cons, List.length_nil, List.length_set]; omega) | (simp only [List.length_set]; exact (Ld.lastZ_lt ‹_›).1) | (simp only [List.length_set]; exact (Ld.lastZ_lt ‹_›).2.1)) (by first | omega | exact (Ld.lastZ_lt ‹_›).1 | exact (Ld.lastZ_lt ‹_›).2.1 | (simp only [List.length_append, List.length_cons, List.length_nil, List.length_set]; omega) | (simp only [List.length_set]; exact (Ld.lastZ_lt ‹_›).1) | (simp only [List.length_set]; exact (Ld.lastZ_lt ‹_›).2.1))) rfl ?_
            refine O.p (Pu.fieldAddr (off' := voff V + (Ld.lastZ out e4.s e4.id).toNat * 8 + 2) Tryd.runUnderlying98 rfl Tryd.sizeOf3 rfl rfl rfl) rfl ?_
            refine O.l0 (Lo.storeM 1 (j := (Ld.lastZ out e4.s e4.id).toNat) (off := 2) (vs := [.int .i64 5]) (e := [.int .i64 e9.s, .int .i64 e9.id, .int .i64 e9.state, .int .i64 e9.level, .int .i64 e9.code, .int .i64 e9.came, .int .i64 e9.began, .int .i64 e9.ended]) ({ e9 with state := 5 }) rfl rfl rfl rfl (by omega) he9 rfl (by exact Tryd.sizeOf3) rfl rfl rfl rfl rfl) ?_
            rintro _ _ rfl
            have hs197 : (out.set (Ld.lastZ out e4.s e4.id).toNat ({ e9 with state := 5 }))[(Ld.lastZ out e4.s e4.id).toNat]? = some ({ e9 with state := 5 }) := List.getElem?_set_self (List.getElem?_eq_some_iff.1 he9).1
            refine O.nil ?_
            refine J.region ?_
            refine O.p (Pu.move rfl) rfl ?_
            refine O.p (Pu.move rfl) rfl ?_
            refine O.p (Pu.fieldAddr (off' := 1) Tryd.runUnderlying83 rfl Tryd.sizeOf3 rfl rfl rfl) rfl ?_
            refine O.q (Qt.ld rfl (Cel.var 0 rfl) (o := 0) (off := 1) rfl (Cut.one Tryd.isAgg3 rfl)) rfl ?_
            refine O.q (Qt.idxM Tryd.runUnderlying88 Tryd.sizeOf98 rfl (Src.row 1 rfl) rfl (by first | omega | exact (Ld.lastZ_lt ‹_›).1 | exact (Ld.lastZ_lt ‹_›).2.1 | (simp only [List.length_append, List.length_cons, List.length_nil, List.length_set]; omega) | (simp only [List.length_set]; exact (Ld.lastZ_lt ‹_›).1) | (simp only [List.length_set]; exact (Ld.lastZ_lt ‹_›).2.1)) (by first | omega | exact (Ld.lastZ_lt ‹_›).1 | exact (Ld.lastZ_lt ‹_›).2.1 | (simp only [List.length_append, List.length_cons, List.length_nil, List.length_set]; omega) | (simp only [List.length_set]; exact (Ld.lastZ_lt ‹_›).1) | (simp only [List.length_set]; exact (Ld.lastZ_lt ‹_›).2.1))) rfl ?_
            refine O.p (Pu.fieldAddr (off' := voff V + (Ld.lastZ out e4.s e4.id).toNat * 8 + 7) Tryd.runUnderlying98 rfl Tryd.sizeOf3 rfl rfl rfl) rfl ?_
            refine O.l0 (Lo.storeM 1 (j := (Ld.lastZ out e4.s e4.id).toNat) (off := 7) (vs := [.int .i64 e4.tick]) (e := [.int .i64 (({ e9 with state := 5 }).s), .int .i64 (({ e9 with state := 5 }).id), .int .i64 (({ e9 with state := 5 }).state), .int .i64 (({ e9 with state := 5 }).level), .int .i64 (({ e9 with state := 5 }).code), .int .i64 (({ e9 with state := 5 }).came), .int .i64 (({ e9 with state := 5 }).began), .int .i64 (({ e9 with state := 5 }).ended)]) ({ { e9 with state := 5 } with ended := e4.tick }) rfl rfl rfl rfl (by omega) hs197 rfl (by exact Tryd.sizeOf3) rfl rfl rfl rfl rfl) ?_
            rintro _ _ rfl
            have hs198 : ((out.set (Ld.lastZ out e4.s e4.id).toNat ({ e9 with state := 5 })).set (Ld.lastZ out e4.s e4.id).toNat ({ { e9 with state := 5 } with ended := e4.tick }))[(Ld.lastZ out e4.s e4.id).toNat]? = some ({ { e9 with state := 5 } with ended := e4.tick }) := List.getElem?_set_self (List.getElem?_eq_some_iff.1 hs197).1
            refine O.nil ?_
            refine J.blk ?_
            refine J.seq ?_
            refine J.region ?_
            refine O.p (Pu.move rfl) rfl ?_
            refine O.p (Pu.not rfl) rfl ?_
            refine O.nil ?_
            refine J.condF rfl (not_of_true h195) ?_
            refine J.skip ?_
            refine J.blk ?_
            refine J.region ?_
            refine O.p (Pu.move rfl) rfl ?_
            refine O.p (Pu.add' rfl rfl (by first | omega | (simp only [List.length_append, List.length_cons, List.length_nil, List.length_set]; omega))) rfl ?_
            refine O.p (Pu.assign rfl) rfl ?_
            refine O.nil ?_
            exact J.lp ⟨k + 1, V, (out.set (Ld.lastZ out e4.s e4.id).toNat ({ e9 with state := 5 })).set (Ld.lastZ out e4.s e4.id).toNat ({ { e9 with state := 5 } with ended := e4.tick })⟩ (show (k + 1) ≤ l.length ∧ Ld.readU l (k + 1) = some ((out.set (Ld.lastZ out e4.s e4.id).toNat ({ e9 with state := 5 })).set (Ld.lastZ out e4.s e4.id).toNat ({ { e9 with state := 5 } with ended := e4.tick })) ∧ ((out.set (Ld.lastZ out e4.s e4.id).toNat ({ e9 with state := 5 })).set (Ld.lastZ out e4.s e4.id).toNat ({ { e9 with state := 5 } with ended := e4.tick })).length ≤ (k + 1) from ⟨by omega, (by rw [Ld.readU_succ hst ‹_›]; exact (by first | exact Ld.step_work ‹_› ‹_› (by omega) ‹_› | (rw [Ld.step_some ‹_› ‹_›]; simp_all [Ld.ruled, Ld.may, Ld.does, Ld.isOpen_or, Ld.there, Ld.fresh]; done) | (rw [Ld.step_none ‹_›]; simp_all [Ld.ruled, Ld.fresh]; done))), by first | omega | (simp only [List.length_append, List.length_singleton, List.length_set]; omega)⟩) (show l.length - (k + 1) < l.length - k from (by first | omega | exact (Ld.lastZ_lt ‹_›).1 | exact (Ld.lastZ_lt ‹_›).2.1 | (simp only [List.length_append, List.length_cons, List.length_nil, List.length_set]; omega) | (simp only [List.length_set]; exact (Ld.lastZ_lt ‹_›).1) | (simp only [List.length_set]; exact (Ld.lastZ_lt ‹_›).2.1))) ⟨rfl, rfl, (congrArg (fun z => some (Value.int .i64 z)) (by first | rfl | omega : ((k : Int) + 1 : Int) = ((k + 1) : Int))), trivial⟩ [1] (by decide) rfl
           ·
            have p199 := of_decide_eq_false h195
            refine J.skip ?_
            refine J.blk ?_
            refine J.seq ?_
            refine J.region ?_
            refine O.p (Pu.move rfl) rfl ?_
            refine O.p (Pu.not rfl) rfl ?_
            refine O.nil ?_
            refine J.condT rfl (not_of_false h195) ?_
            refine J.seq ?_
            refine J.region ?_
            refine O.p (Pu.move rfl) rfl ?_
            refine O.p (Pu.assign rfl) rfl ?_
            refine O.p (Pu.assign rfl) rfl ?_
            refine O.p (Pu.assign rfl) rfl ?_
            refine O.nil ?_
            refine J.nilRow 98 8 ?_
            exact J.ret (Fin.ret (rs := [.tmp 2, .tmp 3, .tmp 4]) rfl [_, _, _] ⟨rfl, rfl, rfl, trivial⟩ [0] (by decide) [row (Value.slice none 0 0) 98 8 (([] : List Ft).map Ft.cells)] rfl ⟨Value.slice none 0 0, (by rw [Ld.read_at hst ‹_› (by first | exact Ld.step_work ‹_› ‹_› (by omega) ‹_› | (rw [Ld.step_some ‹_› ‹_›]; simp_all [Ld.ruled, Ld.may, Ld.does, Ld.isOpen_or, Ld.there, Ld.fresh]; done) | (rw [Ld.step_none ‹_›]; simp_all [Ld.ruled, Ld.fresh]; done))]; rfl), (by rw [Ld.read_at hst ‹_› (by first | exact Ld.step_work ‹_› ‹_› (by omega) ‹_› | (rw [Ld.step_some ‹_› ‹_›]; simp_all [Ld.ruled, Ld.may, Ld.does, Ld.isOpen_or, Ld.there, Ld.fresh]; done) | (rw [Ld.step_none ‹_›]; simp_all [Ld.ruled, Ld.fresh]; done))])⟩)
          ·
           have p200 := of_decide_eq_false h193
           refine J.skip ?_
           refine J.blk ?_
           refine J.seq ?_
           refine J.region ?_
           refine O.p (Pu.move rfl) rfl ?_
           refine O.p (Pu.not rfl) rfl ?_
           refine O.nil ?_
           refine J.condF rfl rfl ?_
           refine J.skip ?_
           refine J.blk ?_
           refine J.region ?_
           refine O.p (Pu.move rfl) rfl ?_
           refine O.p (Pu.add' rfl rfl (by first | omega | (simp only [List.length_append, List.length_cons, List.length_nil, List.length_set]; omega))) rfl ?_
           refine O.p (Pu.assign rfl) rfl ?_
           refine O.nil ?_
           exact J.lp ⟨k + 1, V, out⟩ (show (k + 1) ≤ l.length ∧ Ld.readU l (k + 1) = some out ∧ out.length ≤ (k + 1) from ⟨by omega, (by rw [Ld.readU_succ hst ‹_›]; exact (by first | exact Ld.step_work ‹_› ‹_› (by omega) ‹_› | (rw [Ld.step_some ‹_› ‹_›]; simp_all [Ld.ruled, Ld.may, Ld.does, Ld.isOpen_or, Ld.there, Ld.fresh]; done) | (rw [Ld.step_none ‹_›]; simp_all [Ld.ruled, Ld.fresh]; done))), by first | omega | (simp only [List.length_append, List.length_singleton, List.length_set]; omega)⟩) (show l.length - (k + 1) < l.length - k from (by first | omega | exact (Ld.lastZ_lt ‹_›).1 | exact (Ld.lastZ_lt ‹_›).2.1 | (simp only [List.length_append, List.length_cons, List.length_nil, List.length_set]; omega) | (simp only [List.length_set]; exact (Ld.lastZ_lt ‹_›).1) | (simp only [List.length_set]; exact (Ld.lastZ_lt ‹_›).2.1))) ⟨rfl, rfl, (congrArg (fun z => some (Value.int .i64 z)) (by first | rfl | omega : ((k : Int) + 1 : Int) = ((k + 1) : Int))), trivial⟩ [1] (by decide) rfl
  ·
   have p201 := of_decide_eq_false h7
   refine J.skip ?_
   refine J.seq ?_
   refine J.region ?_
   refine O.p (Pu.move rfl) rfl ?_
   refine O.p (Pu.eql rfl rfl) rfl ?_
   refine O.p (Pu.move rfl) rfl ?_
   refine O.gq (t := 44) rfl rfl rfl rfl (Pu.qt (Pu.move rfl)) rfl ?_
   refine O.gq (t := 44) rfl rfl rfl rfl (Pu.qt (Pu.eql rfl rfl)) rfl ?_
   refine O.p (Pu.pickF rfl rfl rfl) rfl ?_
   refine O.p (Pu.move rfl) rfl ?_
   refine O.gq (t := 48) rfl rfl rfl rfl (Pu.qt (Pu.move rfl)) rfl ?_
   refine O.gq (t := 48) rfl rfl rfl rfl (Pu.qt (Pu.eql rfl rfl)) rfl ?_
   refine O.p (Pu.pickF rfl rfl rfl) rfl ?_
   refine O.p (Pu.assign rfl) rfl ?_
   refine O.nil ?_
   refine J.seq ?_
   refine J.region ?_
   refine O.p (Pu.assign rfl) rfl ?_
   refine O.nil ?_
   refine J.seq ?_
   refine J.seq ?_
   refine J.region ?_
   refine O.p (Pu.fieldAddr (off' := 0) Tryd.runUnderlying83 rfl Tryd.sizeOf3 rfl rfl rfl) rfl ?_
   refine O.q (Qt.ld rfl (Cel.var 0 rfl) (o := 0) (off := 0) rfl (Cut.one Tryd.isAgg3 rfl)) rfl ?_
   refine O.nil ?_
   refine J.block ?_
   refine J.seq ?_
   refine J.region ?_
   refine O.p (Pu.eql rfl rfl) rfl ?_
   refine O.p (Pu.assign rfl) rfl ?_
   refine O.nil ?_
   refine J.cond rfl (fun h202 => ?_) (fun h202 => ?_)
   ·
    have p203 := of_decide_eq_true h202
    refine J.seq ?_
    refine J.region ?_
    refine O.p (Pu.move rfl) rfl ?_
    refine O.p (Pu.not rfl) rfl ?_
    refine O.p (Pu.assign rfl) rfl ?_
    refine O.nil ?_
    refine J.seq ?_
    refine J.region ?_
    refine O.p (Pu.fieldAddr (off' := 2) Tryd.runUnderlying83 rfl Tryd.sizeOf3 rfl rfl rfl) rfl ?_
    refine O.q (Qt.ld rfl (Cel.var 0 rfl) (o := 0) (off := 2) rfl (Cut.one Tryd.isAgg3 rfl)) rfl ?_
    refine O.p (Pu.fieldAddr (off' := 3) Tryd.runUnderlying83 rfl Tryd.sizeOf3 rfl rfl rfl) rfl ?_
    refine O.q (Qt.ld rfl (Cel.var 0 rfl) (o := 0) (off := 3) rfl (Cut.one Tryd.isAgg3 rfl)) rfl ?_
    refine O.p (Pu.fieldAddr (off' := 5) Tryd.runUnderlying83 rfl Tryd.sizeOf3 rfl rfl rfl) rfl ?_
    refine O.q (Qt.ld rfl (Cel.var 0 rfl) (o := 0) (off := 5) rfl (Cut.one Tryd.isAgg3 rfl)) rfl ?_
    refine O.p (Pu.fieldAddr (off' := 4) Tryd.runUnderlying83 rfl Tryd.sizeOf3 rfl rfl rfl) rfl ?_
    refine O.q (Qt.ld rfl (Cel.var 0 rfl) (o := 0) (off := 4) rfl (Cut.one Tryd.isAgg3 rfl)) rfl ?_
    refine O.p (Pu.fieldAddr (off' := 1) Tryd.runUnderlying83 rfl Tryd.sizeOf3 rfl rfl rfl) rfl ?_
    refine O.q (Qt.ld rfl (Cel.var 0 rfl) (o := 0) (off := 1) rfl (Cut.one Tryd.isAgg3 rfl)) rfl ?_
    refine O.p (Pu.build [(0, .int .i64 e4.s), (1, .int .i64 e4.id), (2, .int .i64 2), (3, .int .i64 e4.a), (4, .int .i64 e4.code), (5, .int .i64 e4.tick)] [.int .i64 e4.s, .int .i64 e4.id, .int .i64 2, .int .i64 e4.a, .int .i64 e4.code, .int .i64 e4.tick, .int .i64 0, .int .i64 0] #[(0, 1), (1, 1), (2, 1), (3, 1), (4, 1), (5, 1), (6, 1), (7, 1)] Tryd.runUnderlying98 Tryd.zeroValue98 (places98 Tryd.underlying98) rfl (by kernel_rfl)) rfl ?_
    refine O.l (Lo.alloc [.int .i64 0, .int .i64 0, .int .i64 0, .int .i64 0, .int .i64 0, .int .i64 0, .int .i64 0, .int .i64 0] (by exact Tryd.zeroValue98) rfl) rfl ?_
    rintro _ _ ⟨g204, rfl, rfl⟩
    refine O.l0 (Lo.store 0 (vs := [.int .i64 e4.s, .int .i64 e4.id, .int .i64 2, .int .i64 e4.a, .int .i64 e4.code, .int .i64 e4.tick, .int .i64 0, .int .i64 0]) [.int .i64 e4.s, .int .i64 e4.id, .int .i64 2, .int .i64 e4.a, .int .i64 e4.code, .int .i64 e4.tick, .int .i64 0, .int .i64 0] rfl rfl rfl (by exact Tryd.sizeOf98) rfl rfl rfl rfl rfl) ?_
    rintro _ _ rfl
    refine O.nil ?_
    refine J.seq ?_
    refine J.seq ?_
    refine J.region ?_
    refine O.p (Pu.fieldAddr (off' := 4) Tryd.runUnderlying83 rfl Tryd.sizeOf3 rfl rfl rfl) rfl ?_
    refine O.q (Qt.ld rfl (Cel.var 1 rfl) (o := 0) (off := 4) rfl (Cut.one Tryd.isAgg3 rfl)) rfl ?_
    refine O.p (Pu.neq rfl rfl) rfl ?_
    refine O.nil ?_
    refine J.cond rfl (fun h205 => ?_) (fun h205 => ?_)
    ·
     have p206 := of_decide_eq_true h205
     refine J.region ?_
     refine O.p (Pu.fieldAddr (off' := 2) Tryd.runUnderlying98 rfl Tryd.sizeOf3 rfl rfl rfl) rfl ?_
     refine O.l0 (Lo.store 0 (vs := [.int .i64 1]) [.int .i64 e4.s, .int .i64 e4.id, .int .i64 1, .int .i64 e4.a, .int .i64 e4.code, .int .i64 e4.tick, .int .i64 0, .int .i64 0] rfl rfl rfl (by exact Tryd.sizeOf3) rfl rfl rfl rfl rfl) ?_
     rintro _ _ rfl
     refine O.nil ?_
     refine J.region ?_
     refine O.p (Pu.move rfl) rfl ?_
     refine O.q (Qt.ld rfl (Cel.var 0 rfl) (o := 0) (off := 0) rfl (Cut.agg [.int .i64 e4.s, .int .i64 e4.id, .int .i64 1, .int .i64 e4.a, .int .i64 e4.code, .int .i64 e4.tick, .int .i64 0, .int .i64 0] Tryd.isAgg98 Tryd.sizeOf98 rfl rfl)) rfl ?_
     refine O.l (Lo.buildM (s := 8) Ft.cells [(⟨e4.s, e4.id, 1, e4.a, e4.code, e4.tick, 0, 0⟩ : Ft)] [(0, .agg #[.int .i64 e4.s, .int .i64 e4.id, .int .i64 1, .int .i64 e4.a, .int .i64 e4.code, .int .i64 e4.tick, .int .i64 0, .int .i64 0])] (by exact Tryd.runUnderlying88) (by exact Tryd.sizeOf98) (by exact Tryd.zeroValue98) rfl rfl rfl (by kernel_rfl) rfl rfl) rfl ?_
     rintro V207 _ rfl
     refine O.l (Lo.appendM (s := 8) 3 (by exact Tryd.underlying88) (by exact (info98).1) (by exact (info98).2.1) (by exact (info98).2.2.1) (by exact (info98).2.2.2) rfl rfl rfl rfl rfl (Src.row 0 rfl) Ft.one (by first | omega | exact (Ld.lastZ_lt ‹_›).1 | exact (Ld.lastZ_lt ‹_›).2.1 | (simp only [List.length_append, List.length_cons, List.length_nil, List.length_set]; omega) | (simp only [List.length_set]; exact (Ld.lastZ_lt ‹_›).1) | (simp only [List.length_set]; exact (Ld.lastZ_lt ‹_›).2.1)) (by first | omega | exact (Ld.lastZ_lt ‹_›).1 | exact (Ld.lastZ_lt ‹_›).2.1 | (simp only [List.length_append, List.length_cons, List.length_nil, List.length_set]; omega) | (simp only [List.length_set]; exact (Ld.lastZ_lt ‹_›).1) | (simp only [List.length_set]; exact (Ld.lastZ_lt ‹_›).2.1))) rfl ?_
     rintro V208 _ rfl
     refine O.p (Pu.assign rfl) rfl ?_
     refine O.nil ?_
     refine J.blk ?_
     refine J.seq ?_
     refine J.region ?_
     refine O.p (Pu.move rfl) rfl ?_
     refine O.p (Pu.not rfl) rfl ?_
     refine O.nil ?_
     refine J.condF rfl rfl ?_
     refine J.skip ?_
     refine J.blk ?_
     refine J.region ?_
     refine O.p (Pu.move rfl) rfl ?_
     refine O.p (Pu.add' rfl rfl (by first | omega | (simp only [List.length_append, List.length_cons, List.length_nil, List.length_set]; omega))) rfl ?_
     refine O.p (Pu.assign rfl) rfl ?_
     refine O.nil ?_
     exact J.lp ⟨k + 1, V208, out ++ ([(⟨e4.s, e4.id, 1, e4.a, e4.code, e4.tick, 0, 0⟩ : Ft)])⟩ (show (k + 1) ≤ l.length ∧ Ld.readU l (k + 1) = some (out ++ ([(⟨e4.s, e4.id, 1, e4.a, e4.code, e4.tick, 0, 0⟩ : Ft)])) ∧ (out ++ ([(⟨e4.s, e4.id, 1, e4.a, e4.code, e4.tick, 0, 0⟩ : Ft)])).length ≤ (k + 1) from ⟨by omega, (by rw [Ld.readU_succ hst ‹_›]; exact (by first | exact Ld.step_work ‹_› ‹_› (by omega) ‹_› | (rw [Ld.step_some ‹_› ‹_›]; simp_all [Ld.ruled, Ld.may, Ld.does, Ld.isOpen_or, Ld.there, Ld.fresh]; done) | (rw [Ld.step_none ‹_›]; simp_all [Ld.ruled, Ld.fresh]; done))), by first | omega | (simp only [List.length_append, List.length_singleton, List.length_set]; omega)⟩) (show l.length - (k + 1) < l.length - k from (by first | omega | exact (Ld.lastZ_lt ‹_›).1 | exact (Ld.lastZ_lt ‹_›).2.1 | (simp only [List.length_append, List.length_cons, List.length_nil, List.length_set]; omega) | (simp only [List.length_set]; exact (Ld.lastZ_lt ‹_›).1) | (simp only [List.length_set]; exact (Ld.lastZ_lt ‹_›).2.1))) ⟨rfl, rfl, (congrArg (fun z => some (Value.int .i64 z)) (by first | rfl | omega : ((k : Int) + 1 : Int) = ((k + 1) : Int))), trivial⟩ [3] (by decide) rfl
    ·
     have p209 := of_decide_eq_false h205
     refine J.skip ?_
     refine J.region ?_
     refine O.p (Pu.move rfl) rfl ?_
     refine O.q (Qt.ld rfl (Cel.var 0 rfl) (o := 0) (off := 0) rfl (Cut.agg [.int .i64 e4.s, .int .i64 e4.id, .int .i64 2, .int .i64 e4.a, .int .i64 e4.code, .int .i64 e4.tick, .int .i64 0, .int .i64 0] Tryd.isAgg98 Tryd.sizeOf98 rfl rfl)) rfl ?_
     refine O.l (Lo.buildM (s := 8) Ft.cells [(⟨e4.s, e4.id, 2, e4.a, e4.code, e4.tick, 0, 0⟩ : Ft)] [(0, .agg #[.int .i64 e4.s, .int .i64 e4.id, .int .i64 2, .int .i64 e4.a, .int .i64 e4.code, .int .i64 e4.tick, .int .i64 0, .int .i64 0])] (by exact Tryd.runUnderlying88) (by exact Tryd.sizeOf98) (by exact Tryd.zeroValue98) rfl rfl rfl (by kernel_rfl) rfl rfl) rfl ?_
     rintro V210 _ rfl
     refine O.l (Lo.appendM (s := 8) 3 (by exact Tryd.underlying88) (by exact (info98).1) (by exact (info98).2.1) (by exact (info98).2.2.1) (by exact (info98).2.2.2) rfl rfl rfl rfl rfl (Src.row 0 rfl) Ft.one (by first | omega | exact (Ld.lastZ_lt ‹_›).1 | exact (Ld.lastZ_lt ‹_›).2.1 | (simp only [List.length_append, List.length_cons, List.length_nil, List.length_set]; omega) | (simp only [List.length_set]; exact (Ld.lastZ_lt ‹_›).1) | (simp only [List.length_set]; exact (Ld.lastZ_lt ‹_›).2.1)) (by first | omega | exact (Ld.lastZ_lt ‹_›).1 | exact (Ld.lastZ_lt ‹_›).2.1 | (simp only [List.length_append, List.length_cons, List.length_nil, List.length_set]; omega) | (simp only [List.length_set]; exact (Ld.lastZ_lt ‹_›).1) | (simp only [List.length_set]; exact (Ld.lastZ_lt ‹_›).2.1))) rfl ?_
     rintro V211 _ rfl
     refine O.p (Pu.assign rfl) rfl ?_
     refine O.nil ?_
     refine J.blk ?_
     refine J.seq ?_
     refine J.region ?_
     refine O.p (Pu.move rfl) rfl ?_
     refine O.p (Pu.not rfl) rfl ?_
     refine O.nil ?_
     refine J.condF rfl rfl ?_
     refine J.skip ?_
     refine J.blk ?_
     refine J.region ?_
     refine O.p (Pu.move rfl) rfl ?_
     refine O.p (Pu.add' rfl rfl (by first | omega | (simp only [List.length_append, List.length_cons, List.length_nil, List.length_set]; omega))) rfl ?_
     refine O.p (Pu.assign rfl) rfl ?_
     refine O.nil ?_
     exact J.lp ⟨k + 1, V211, out ++ ([(⟨e4.s, e4.id, 2, e4.a, e4.code, e4.tick, 0, 0⟩ : Ft)])⟩ (show (k + 1) ≤ l.length ∧ Ld.readU l (k + 1) = some (out ++ ([(⟨e4.s, e4.id, 2, e4.a, e4.code, e4.tick, 0, 0⟩ : Ft)])) ∧ (out ++ ([(⟨e4.s, e4.id, 2, e4.a, e4.code, e4.tick, 0, 0⟩ : Ft)])).length ≤ (k + 1) from ⟨by omega, (by rw [Ld.readU_succ hst ‹_›]; exact (by first | exact Ld.step_work ‹_› ‹_› (by omega) ‹_› | (rw [Ld.step_some ‹_› ‹_›]; simp_all [Ld.ruled, Ld.may, Ld.does, Ld.isOpen_or, Ld.there, Ld.fresh]; done) | (rw [Ld.step_none ‹_›]; simp_all [Ld.ruled, Ld.fresh]; done))), by first | omega | (simp only [List.length_append, List.length_singleton, List.length_set]; omega)⟩) (show l.length - (k + 1) < l.length - k from (by first | omega | exact (Ld.lastZ_lt ‹_›).1 | exact (Ld.lastZ_lt ‹_›).2.1 | (simp only [List.length_append, List.length_cons, List.length_nil, List.length_set]; omega) | (simp only [List.length_set]; exact (Ld.lastZ_lt ‹_›).1) | (simp only [List.length_set]; exact (Ld.lastZ_lt ‹_›).2.1))) ⟨rfl, rfl, (congrArg (fun z => some (Value.int .i64 z)) (by first | rfl | omega : ((k : Int) + 1 : Int) = ((k + 1) : Int))), trivial⟩ [3] (by decide) rfl
   ·
    have p212 := of_decide_eq_false h202
    refine J.seq ?_
    refine J.region ?_
    refine O.p (Pu.eql rfl rfl) rfl ?_
    refine O.p (Pu.assign rfl) rfl ?_
    refine O.nil ?_
    refine J.cond rfl (fun h213 => ?_) (fun h213 => ?_)
    ·
     have p214 := of_decide_eq_true h213
     refine J.seq ?_
     refine J.region ?_
     refine O.p (Pu.move rfl) rfl ?_
     refine O.p (Pu.eql rfl rfl) rfl ?_
     refine O.p (Pu.assign rfl) rfl ?_
     refine O.nil ?_
     refine J.seq ?_
     refine J.region ?_
     refine O.p (Pu.move rfl) rfl ?_
     refine O.nil ?_
     refine J.condF rfl rfl ?_
     refine J.skip ?_
     refine J.blk ?_
     refine J.seq ?_
     refine J.region ?_
     refine O.p (Pu.move rfl) rfl ?_
     refine O.p (Pu.not rfl) rfl ?_
     refine O.nil ?_
     refine J.condT rfl rfl ?_
     refine J.seq ?_
     refine J.region ?_
     refine O.p (Pu.move rfl) rfl ?_
     refine O.p (Pu.assign rfl) rfl ?_
     refine O.p (Pu.assign rfl) rfl ?_
     refine O.p (Pu.assign rfl) rfl ?_
     refine O.nil ?_
     refine J.nilRow 98 8 ?_
     exact J.ret (Fin.ret (rs := [.tmp 2, .tmp 3, .tmp 4]) rfl [_, _, _] ⟨rfl, rfl, rfl, trivial⟩ [0] (by decide) [row (Value.slice none 0 0) 98 8 (([] : List Ft).map Ft.cells)] rfl ⟨Value.slice none 0 0, (by rw [Ld.read_at hst ‹_› (by first | exact Ld.step_work ‹_› ‹_› (by omega) ‹_› | (rw [Ld.step_some ‹_› ‹_›]; simp_all [Ld.ruled, Ld.may, Ld.does, Ld.isOpen_or, Ld.there, Ld.fresh]; done) | (rw [Ld.step_none ‹_›]; simp_all [Ld.ruled, Ld.fresh]; done))]; rfl), (by rw [Ld.read_at hst ‹_› (by first | exact Ld.step_work ‹_› ‹_› (by omega) ‹_› | (rw [Ld.step_some ‹_› ‹_›]; simp_all [Ld.ruled, Ld.may, Ld.does, Ld.isOpen_or, Ld.there, Ld.fresh]; done) | (rw [Ld.step_none ‹_›]; simp_all [Ld.ruled, Ld.fresh]; done))])⟩)
    ·
     have p215 := of_decide_eq_false h213
     refine J.seq ?_
     refine J.region ?_
     refine O.p (Pu.eql rfl rfl) rfl ?_
     refine O.p (Pu.assign rfl) rfl ?_
     refine O.nil ?_
     refine J.cond rfl (fun h216 => ?_) (fun h216 => ?_)
     ·
      have p217 := of_decide_eq_true h216
      refine J.seq ?_
      refine J.region ?_
      refine O.p (Pu.move rfl) rfl ?_
      refine O.p (Pu.move rfl) rfl ?_
      refine O.gskip (t := 95) rfl rfl (no_bool (by decide)) rfl rfl ?_
      refine O.gskip (t := 95) rfl rfl (no_bool (by decide)) rfl rfl ?_
      refine O.gskip (t := 95) rfl rfl (no_bool (by decide)) rfl rfl ?_
      refine O.gskip (t := 98) rfl rfl (no_undef _) rfl rfl ?_
      refine O.gskip (t := 98) rfl rfl (no_undef _) rfl rfl ?_
      refine O.gskip (t := 98) rfl rfl (no_undef _) rfl rfl ?_
      refine O.gskip (t := 98) rfl rfl (no_undef _) rfl rfl ?_
      refine O.gskip (t := 95) rfl rfl (no_bool (by decide)) rfl rfl ?_
      refine O.p (Pu.pickF rfl rfl rfl) rfl ?_
      refine O.p (Pu.assign rfl) rfl ?_
      refine O.nil ?_
      refine J.seq ?_
      refine J.region ?_
      refine O.p (Pu.move rfl) rfl ?_
      refine O.nil ?_
      refine J.condF rfl rfl ?_
      refine J.skip ?_
      refine J.blk ?_
      refine J.seq ?_
      refine J.region ?_
      refine O.p (Pu.move rfl) rfl ?_
      refine O.p (Pu.not rfl) rfl ?_
      refine O.nil ?_
      refine J.condT rfl rfl ?_
      refine J.seq ?_
      refine J.region ?_
      refine O.p (Pu.move rfl) rfl ?_
      refine O.p (Pu.assign rfl) rfl ?_
      refine O.p (Pu.assign rfl) rfl ?_
      refine O.p (Pu.assign rfl) rfl ?_
      refine O.nil ?_
      refine J.nilRow 98 8 ?_
      exact J.ret (Fin.ret (rs := [.tmp 2, .tmp 3, .tmp 4]) rfl [_, _, _] ⟨rfl, rfl, rfl, trivial⟩ [0] (by decide) [row (Value.slice none 0 0) 98 8 (([] : List Ft).map Ft.cells)] rfl ⟨Value.slice none 0 0, (by rw [Ld.read_at hst ‹_› (by first | exact Ld.step_work ‹_› ‹_› (by omega) ‹_› | (rw [Ld.step_some ‹_› ‹_›]; simp_all [Ld.ruled, Ld.may, Ld.does, Ld.isOpen_or, Ld.there, Ld.fresh]; done) | (rw [Ld.step_none ‹_›]; simp_all [Ld.ruled, Ld.fresh]; done))]; rfl), (by rw [Ld.read_at hst ‹_› (by first | exact Ld.step_work ‹_› ‹_› (by omega) ‹_› | (rw [Ld.step_some ‹_› ‹_›]; simp_all [Ld.ruled, Ld.may, Ld.does, Ld.isOpen_or, Ld.there, Ld.fresh]; done) | (rw [Ld.step_none ‹_›]; simp_all [Ld.ruled, Ld.fresh]; done))])⟩)
     ·
      have p218 := of_decide_eq_false h216
      refine J.seq ?_
      refine J.seq ?_
      refine J.region ?_
      refine O.p (Pu.eql rfl rfl) rfl ?_
      refine O.p (Pu.assign rfl) rfl ?_
      refine O.nil ?_
      refine J.cond rfl (fun h219 => ?_) (fun h219 => ?_)
      ·
       have p220 := of_decide_eq_true h219
       refine J.skip ?_
       refine J.condT rfl h219 ?_
       refine J.region ?_
       refine O.p (Pu.move rfl) rfl ?_
       refine O.p (Pu.eql rfl rfl) rfl ?_
       refine O.p (Pu.assign rfl) rfl ?_
       refine O.nil ?_
       refine J.blk ?_
       refine J.seq ?_
       refine J.region ?_
       refine O.p (Pu.move rfl) rfl ?_
       refine O.p (Pu.not rfl) rfl ?_
       refine O.nil ?_
       refine J.condT rfl rfl ?_
       refine J.seq ?_
       refine J.region ?_
       refine O.p (Pu.move rfl) rfl ?_
       refine O.p (Pu.assign rfl) rfl ?_
       refine O.p (Pu.assign rfl) rfl ?_
       refine O.p (Pu.assign rfl) rfl ?_
       refine O.nil ?_
       refine J.nilRow 98 8 ?_
       exact J.ret (Fin.ret (rs := [.tmp 2, .tmp 3, .tmp 4]) rfl [_, _, _] ⟨rfl, rfl, rfl, trivial⟩ [0] (by decide) [row (Value.slice none 0 0) 98 8 (([] : List Ft).map Ft.cells)] rfl ⟨Value.slice none 0 0, (by rw [Ld.read_at hst ‹_› (by first | exact Ld.step_work ‹_› ‹_› (by omega) ‹_› | (rw [Ld.step_some ‹_› ‹_›]; simp_all [Ld.ruled, Ld.may, Ld.does, Ld.isOpen_or, Ld.there, Ld.fresh]; done) | (rw [Ld.step_none ‹_›]; simp_all [Ld.ruled, Ld.fresh]; done))]; rfl), (by rw [Ld.read_at hst ‹_› (by first | exact Ld.step_work ‹_› ‹_› (by omega) ‹_› | (rw [Ld.step_some ‹_› ‹_›]; simp_all [Ld.ruled, Ld.may, Ld.does, Ld.isOpen_or, Ld.there, Ld.fresh]; done) | (rw [Ld.step_none ‹_›]; simp_all [Ld.ruled, Ld.fresh]; done))])⟩)
      ·
       have p221 := of_decide_eq_false h219
       refine J.region ?_
       refine O.p (Pu.eql rfl rfl) rfl ?_
       refine O.p (Pu.assign rfl) rfl ?_
       refine O.nil ?_
       refine J.cond rfl (fun h222 => ?_) (fun h222 => ?_)
       ·
        have p223 := of_decide_eq_true h222
        refine J.region ?_
        refine O.p (Pu.move rfl) rfl ?_
        refine O.p (Pu.eql rfl rfl) rfl ?_
        refine O.p (Pu.assign rfl) rfl ?_
        refine O.nil ?_
        refine J.blk ?_
        refine J.seq ?_
        refine J.region ?_
        refine O.p (Pu.move rfl) rfl ?_
        refine O.p (Pu.not rfl) rfl ?_
        refine O.nil ?_
        refine J.condT rfl rfl ?_
        refine J.seq ?_
        refine J.region ?_
        refine O.p (Pu.move rfl) rfl ?_
        refine O.p (Pu.assign rfl) rfl ?_
        refine O.p (Pu.assign rfl) rfl ?_
        refine O.p (Pu.assign rfl) rfl ?_
        refine O.nil ?_
        refine J.nilRow 98 8 ?_
        exact J.ret (Fin.ret (rs := [.tmp 2, .tmp 3, .tmp 4]) rfl [_, _, _] ⟨rfl, rfl, rfl, trivial⟩ [0] (by decide) [row (Value.slice none 0 0) 98 8 (([] : List Ft).map Ft.cells)] rfl ⟨Value.slice none 0 0, (by rw [Ld.read_at hst ‹_› (by first | exact Ld.step_work ‹_› ‹_› (by omega) ‹_› | (rw [Ld.step_some ‹_› ‹_›]; simp_all [Ld.ruled, Ld.may, Ld.does, Ld.isOpen_or, Ld.there, Ld.fresh]; done) | (rw [Ld.step_none ‹_›]; simp_all [Ld.ruled, Ld.fresh]; done))]; rfl), (by rw [Ld.read_at hst ‹_› (by first | exact Ld.step_work ‹_› ‹_› (by omega) ‹_› | (rw [Ld.step_some ‹_› ‹_›]; simp_all [Ld.ruled, Ld.may, Ld.does, Ld.isOpen_or, Ld.there, Ld.fresh]; done) | (rw [Ld.step_none ‹_›]; simp_all [Ld.ruled, Ld.fresh]; done))])⟩)
       ·
        have p224 := of_decide_eq_false h222
        refine J.seq ?_
        refine J.region ?_
        refine O.p (Pu.eql rfl rfl) rfl ?_
        refine O.p (Pu.assign rfl) rfl ?_
        refine O.nil ?_
        refine J.cond rfl (fun h225 => ?_) (fun h225 => ?_)
        ·
         have p226 := of_decide_eq_true h225
         refine J.seq ?_
         refine J.region ?_
         refine O.p (Pu.move rfl) rfl ?_
         refine O.p (Pu.eql rfl rfl) rfl ?_
         refine O.p (Pu.move rfl) rfl ?_
         refine O.gq (t := 131) rfl rfl rfl rfl (Pu.qt (Pu.move rfl)) rfl ?_
         refine O.gq (t := 131) rfl rfl rfl rfl (Pu.qt (Pu.eql rfl rfl)) rfl ?_
         refine O.p (Pu.pickF rfl rfl rfl) rfl ?_
         refine O.p (Pu.assign rfl) rfl ?_
         refine O.nil ?_
         refine J.seq ?_
         refine J.region ?_
         refine O.p (Pu.move rfl) rfl ?_
         refine O.nil ?_
         refine J.condF rfl rfl ?_
         refine J.skip ?_
         refine J.blk ?_
         refine J.seq ?_
         refine J.region ?_
         refine O.p (Pu.move rfl) rfl ?_
         refine O.p (Pu.not rfl) rfl ?_
         refine O.nil ?_
         refine J.condT rfl rfl ?_
         refine J.seq ?_
         refine J.region ?_
         refine O.p (Pu.move rfl) rfl ?_
         refine O.p (Pu.assign rfl) rfl ?_
         refine O.p (Pu.assign rfl) rfl ?_
         refine O.p (Pu.assign rfl) rfl ?_
         refine O.nil ?_
         refine J.nilRow 98 8 ?_
         exact J.ret (Fin.ret (rs := [.tmp 2, .tmp 3, .tmp 4]) rfl [_, _, _] ⟨rfl, rfl, rfl, trivial⟩ [0] (by decide) [row (Value.slice none 0 0) 98 8 (([] : List Ft).map Ft.cells)] rfl ⟨Value.slice none 0 0, (by rw [Ld.read_at hst ‹_› (by first | exact Ld.step_work ‹_› ‹_› (by omega) ‹_› | (rw [Ld.step_some ‹_› ‹_›]; simp_all [Ld.ruled, Ld.may, Ld.does, Ld.isOpen_or, Ld.there, Ld.fresh]; done) | (rw [Ld.step_none ‹_›]; simp_all [Ld.ruled, Ld.fresh]; done))]; rfl), (by rw [Ld.read_at hst ‹_› (by first | exact Ld.step_work ‹_› ‹_› (by omega) ‹_› | (rw [Ld.step_some ‹_› ‹_›]; simp_all [Ld.ruled, Ld.may, Ld.does, Ld.isOpen_or, Ld.there, Ld.fresh]; done) | (rw [Ld.step_none ‹_›]; simp_all [Ld.ruled, Ld.fresh]; done))])⟩)
        ·
         have p227 := of_decide_eq_false h225
         refine J.skip ?_
         refine J.blk ?_
         refine J.seq ?_
         refine J.region ?_
         refine O.p (Pu.move rfl) rfl ?_
         refine O.p (Pu.not rfl) rfl ?_
         refine O.nil ?_
         refine J.condF rfl rfl ?_
         refine J.skip ?_
         refine J.blk ?_
         refine J.region ?_
         refine O.p (Pu.move rfl) rfl ?_
         refine O.p (Pu.add' rfl rfl (by first | omega | (simp only [List.length_append, List.length_cons, List.length_nil, List.length_set]; omega))) rfl ?_
         refine O.p (Pu.assign rfl) rfl ?_
         refine O.nil ?_
         exact J.lp ⟨k + 1, V, out⟩ (show (k + 1) ≤ l.length ∧ Ld.readU l (k + 1) = some out ∧ out.length ≤ (k + 1) from ⟨by omega, (by rw [Ld.readU_succ hst ‹_›]; exact (by first | exact Ld.step_work ‹_› ‹_› (by omega) ‹_› | (rw [Ld.step_some ‹_› ‹_›]; simp_all [Ld.ruled, Ld.may, Ld.does, Ld.isOpen_or, Ld.there, Ld.fresh]; done) | (rw [Ld.step_none ‹_›]; simp_all [Ld.ruled, Ld.fresh]; done))), by first | omega | (simp only [List.length_append, List.length_singleton, List.length_set]; omega)⟩) (show l.length - (k + 1) < l.length - k from (by first | omega | exact (Ld.lastZ_lt ‹_›).1 | exact (Ld.lastZ_lt ‹_›).2.1 | (simp only [List.length_append, List.length_cons, List.length_nil, List.length_set]; omega) | (simp only [List.length_set]; exact (Ld.lastZ_lt ‹_›).1) | (simp only [List.length_set]; exact (Ld.lastZ_lt ‹_›).2.1))) ⟨rfl, rfl, (congrArg (fun z => some (Value.int .i64 z)) (by first | rfl | omega : ((k : Int) + 1 : Int) = ((k + 1) : Int))), trivial⟩ [1] (by decide) rfl
 ·
  have p228 := of_decide_eq_false h2
  refine J.exit _ rfl ?_
  refine J.seq ?_
  refine J.region ?_
  refine O.p (Pu.move rfl) rfl ?_
  refine O.p (Pu.assign rfl) rfl ?_
  refine O.p (Pu.assign rfl) rfl ?_
  refine O.p (Pu.assign rfl) rfl ?_
  refine O.nil ?_
  exact J.ret (Fin.ret (rs := [.tmp 2, .tmp 3, .tmp 4]) rfl [_, _, _] ⟨rfl, rfl, rfl, trivial⟩ [0] (by decide) [row V 98 8 (out.map Ft.cells)] rfl ⟨V, (by have hk2 : k = l.length := (by omega); subst hk2; rw [Ld.read_all hst]; rfl), (by have hk2 : k = l.length := (by omega); subst hk2; rw [Ld.read_all hst])⟩)

end Go.Proofs.YtilcmkegbmppnaaDoor
