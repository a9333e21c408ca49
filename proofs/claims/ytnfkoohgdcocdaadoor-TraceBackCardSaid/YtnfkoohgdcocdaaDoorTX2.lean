/-
  Walks, printed by a program of mine (lk.py): each function meets its contract.
-/
import Derived.KernelRfl
import Derived.Test.YtnfkoohgdcocdaaDoorTX1
namespace Go.Proofs.YtnfkoohgdcocdaaDoor
open Go Go.LK
set_option linter.unusedSimpArgs false

set_option maxRecDepth 100000 in
set_option maxHeartbeats 4000000 in
theorem tc_Parse (s : List UInt8) (hs : s.length ≤ 100000) : Tri Tryd.prog 16 #[str s] [libW, var 0 (Tc.kinds.map vS) 111] [] (fun v L' => v = .tuple #[.agg (Ev.cells (Tc.parse s).1).toArray, .int .i64 (Tc.parse s).2] ∧ L' = []) := by
  refine Tri.enter (args := [str s]) (body := _) 73 Tryd.func16 rfl Tryd.ntmps16 rfl ?_
  intro w0
  refine J.seq ?_
  refine J.region ?_
  refine O.l (Lo.alloc [.int .i64 0, .int .i64 0, .int .i64 0, .int .i64 0, .int .i64 0, .int .i64 0, .int .i64 0] (by exact Tryd.zeroValue23) rfl) rfl ?_
  rintro _ _ ⟨g1, rfl, rfl⟩
  refine O.p (Pu.assign rfl) rfl ?_
  refine O.nil ?_
  refine J.seq ?_
  refine J.region ?_
  refine O.p (Pu.move rfl) rfl ?_
  refine O.l (Lo.call [str s] (by exact Tryd.call78) rfl (w_Words s (by omega)) [] [0] (by decide) rfl [var g1 [.int .i64 0, .int .i64 0, .int .i64 0, .int .i64 0, .int .i64 0, .int .i64 0, .int .i64 0] 23] rfl RoOk.nil) rfl ?_
  rintro v2 _ ⟨_, rfl, rfl⟩
  refine O.l (Lo.alloc [Value.slice none 0 0] (by exact Tryd.zeroValue32) rfl) rfl ?_
  rintro _ _ ⟨g3, rfl, rfl⟩
  refine O.one (Src.row 1 rfl) (fun hV4 => ?_)
  refine O.l0 (Lo.store 0 (vs := [v2]) [v2] rfl rfl rfl (by exact Tryd.sizeOf32) (one_cells hV4) rfl (one_all hV4) rfl rfl) ?_
  rintro _ _ rfl
  refine O.nil ?_
  refine J.seq ?_
  refine J.seq ?_
  refine J.region ?_
  refine O.q (Qt.ld rfl (Cel.var 0 rfl) (o := 0) (off := 0) rfl (Cut.one Tryd.isAgg32 rfl)) rfl ?_
  refine O.q (Qt.lenM Tryd.runUnderlying32 rfl (Src.row 1 rfl)) rfl ?_
  refine O.p (Pu.neq rfl rfl) rfl ?_
  refine O.nil ?_
  refine J.cond rfl (fun h5 => ?_) (fun h5 => ?_)
  ·
    have p6 := of_decide_eq_true h5
    refine J.seq ?_
    refine J.region ?_
    refine O.p (Pu.build [] [.int .i64 0, .int .i64 0, .int .i64 0, .int .i64 0, .int .i64 0, .int .i64 0, .int .i64 0] #[(0, 1), (1, 1), (2, 1), (3, 1), (4, 1), (5, 1), (6, 1)] Tryd.runUnderlying23 Tryd.zeroValue23 (places23 Tryd.underlying23) rfl (by kernel_rfl)) rfl ?_
    refine O.l0 (Lo.store 2 (vs := [.int .i64 0, .int .i64 0, .int .i64 0, .int .i64 0, .int .i64 0, .int .i64 0, .int .i64 0]) [.int .i64 0, .int .i64 0, .int .i64 0, .int .i64 0, .int .i64 0, .int .i64 0, .int .i64 0] rfl rfl rfl (by exact Tryd.sizeOf23) rfl rfl rfl rfl rfl) ?_
    rintro _ _ rfl
    refine O.p (Pu.assign rfl) rfl ?_
    refine O.nil ?_
    exact J.ret (Fin.ret (rs := [.cell 2 23, .tmp 3]) rfl [_, _] ⟨⟨_, _, 0, 0, _, rfl, (Cel.var 2 rfl), rfl, (Cut.agg [.int .i64 0, .int .i64 0, .int .i64 0, .int .i64 0, .int .i64 0, .int .i64 0, .int .i64 0] Tryd.isAgg23 Tryd.sizeOf23 rfl rfl)⟩, rfl, trivial⟩ [] (by decide) [] rfl ⟨(by rw [Tc.parse_few (by omega)]; rfl), rfl⟩)
  ·
    have p7 := of_decide_eq_false h5
    refine J.skip ?_
    refine J.seq ?_
    refine J.region ?_
    refine O.l (Lo.alloc [.int .i64 0] (by exact Tryd.zeroValue3) rfl) rfl ?_
    rintro _ _ ⟨g8, rfl, rfl⟩
    refine O.l (Lo.alloc [.bool false] (by exact Tryd.zeroValue4) rfl) rfl ?_
    rintro _ _ ⟨g9, rfl, rfl⟩
    refine O.l0 (Lo.store 1 (vs := [.int .i64 0]) [.int .i64 0] rfl rfl rfl (by exact Tryd.sizeOf3) rfl rfl rfl rfl rfl) ?_
    rintro _ _ rfl
    refine O.l0 (Lo.store 0 (vs := [.bool true]) [.bool true] rfl rfl rfl (by exact Tryd.sizeOf4) rfl rfl rfl rfl rfl) ?_
    rintro _ _ rfl
    refine O.nil ?_
    refine J.seq ?_
    refine J.region ?_
    refine O.p (Pu.makeFunc [.pointer (some ⟨g8, 0, none⟩), .pointer (some ⟨g3, 0, none⟩)] rfl) rfl ?_
    refine O.l (Lo.alloc [Value.nilFunc] (by exact Tryd.zeroValue106) rfl) rfl ?_
    rintro _ _ ⟨g10, rfl, rfl⟩
    refine O.l0 (Lo.store 0 (vs := [.func (.func 79) #[] #[.pointer (some ⟨g8, 0, none⟩), .pointer (some ⟨g3, 0, none⟩)]]) [.func (.func 79) #[] #[.pointer (some ⟨g8, 0, none⟩), .pointer (some ⟨g3, 0, none⟩)]] rfl rfl rfl (by exact Tryd.sizeOf106) rfl rfl rfl rfl rfl) ?_
    rintro _ _ rfl
    refine O.nil ?_
    refine J.seq ?_
    refine J.region ?_
    refine O.p (Pu.makeFunc [.pointer (some ⟨g10, 0, none⟩), .pointer (some ⟨g9, 0, none⟩)] rfl) rfl ?_
    refine O.p (Pu.assign rfl) rfl ?_
    refine O.nil ?_
    refine J.seq ?_
    refine J.region ?_
    refine O.l (Lo.alloc [.int .i64 0, .int .i64 0, .int .i64 0, .int .i64 0, .int .i64 0, .int .i64 0, .int .i64 0] (by exact Tryd.zeroValue23) rfl) rfl ?_
    rintro _ _ ⟨g11, rfl, rfl⟩
    refine O.nil ?_
    refine J.seq ?_
    refine J.region ?_
    refine O.q (Qt.ld rfl (Cel.var 1 rfl) (o := 0) (off := 0) rfl (Cut.one Tryd.isAgg106 rfl)) rfl ?_
    obtain ⟨e12, he12⟩ : ∃ x_, (Wd.wordsL s)[0]? = some x_ := ⟨_, List.getElem?_eq_getElem (by first | omega | (have h_ := Wd.words_cut (by assumption); omega))⟩
    refine O.l (Lo.callV (vs := []) (caps := [.pointer (some ⟨g8, 0, none⟩), .pointer (some ⟨g3, 0, none⟩)]) (by exact Tryd.call79) rfl rfl (tc_next g8 g3 v2 (Wd.wordsL s) 0 e12 he12 (by omega)) [3] [0, 1, 2, 4, 5, 6] (by decide) rfl [var g11 [.int .i64 0, .int .i64 0, .int .i64 0, .int .i64 0, .int .i64 0, .int .i64 0, .int .i64 0] 23, var g10 [.func (.func 79) #[] #[.pointer (some ⟨g8, 0, none⟩), .pointer (some ⟨g3, 0, none⟩)]] 106, var g9 [.bool true] 4, var g3 [v2] 32, row v2 9 1 ((Wd.wordsL s).map encS), var g1 [.int .i64 0, .int .i64 0, .int .i64 0, .int .i64 0, .int .i64 0, .int .i64 0, .int .i64 0] 23] rfl (RoOk.of 4 rfl same_rd [3] (by decide) rfl (RoOk.of 5 rfl row_rd [3] (by decide) rfl RoOk.nil))) rfl ?_
    rintro _ _ ⟨_, ⟨rfl, rfl⟩, rfl⟩
    refine O.p (Pu.sEql rfl rfl) rfl ?_
    refine O.l0 (Lo.store 3 (vs := [.bool (e12 == ([97, 116]))]) [.bool (e12 == ([97, 116]))] rfl rfl rfl (by exact Tryd.sizeOf4) rfl rfl rfl rfl rfl) ?_
    rintro _ _ rfl
    refine O.nil ?_
    refine J.seq ?_
    refine J.region ?_
    refine O.p (Pu.move rfl) rfl ?_
    obtain ⟨e14, he14⟩ : ∃ x_, (Wd.wordsL s)[1]? = some x_ := ⟨_, List.getElem?_eq_getElem (by first | omega | (have h_ := Wd.words_cut (by assumption); omega))⟩
    refine O.l (Lo.callV (vs := []) (caps := [.pointer (some ⟨g10, 0, none⟩), .pointer (some ⟨g9, 0, none⟩)]) (by exact Tryd.call80) rfl rfl (tc_num g10 g9 g8 g3 v2 (Wd.wordsL s) 1 e14 (e12 == ([97, 116])) he14 (by omega) (by first | omega | (have h_ := Wd.words_cut (s := s) (by assumption); omega))) [3, 0] [1, 2, 4, 5, 6] (by decide) rfl [var g11 [.int .i64 0, .int .i64 0, .int .i64 0, .int .i64 0, .int .i64 0, .int .i64 0, .int .i64 0] 23, var g10 [.func (.func 79) #[] #[.pointer (some ⟨g8, 0, none⟩), .pointer (some ⟨g3, 0, none⟩)]] 106, var g3 [v2] 32, row v2 9 1 ((Wd.wordsL s).map encS), var g1 [.int .i64 0, .int .i64 0, .int .i64 0, .int .i64 0, .int .i64 0, .int .i64 0, .int .i64 0] 23] rfl (RoOk.ro 0 rfl [3, 0] rfl (RoOk.of 2 rfl same_rd [3, 0] (by decide) rfl (RoOk.of 4 rfl same_rd [3, 0] (by decide) rfl (RoOk.of 5 rfl row_rd [3, 0] (by decide) rfl RoOk.nil))))) rfl ?_
    rintro _ _ ⟨_, ⟨rfl, rfl⟩, rfl⟩
    refine O.p (Pu.fieldAddr (off' := 1) Tryd.runUnderlying23 rfl Tryd.sizeOf3 rfl rfl rfl) rfl ?_
    refine O.l0 (Lo.store 2 (vs := [.int .i64 ((Dc.parse e14).1)]) [.int .i64 0, .int .i64 ((Dc.parse e14).1), .int .i64 0, .int .i64 0, .int .i64 0, .int .i64 0, .int .i64 0] rfl rfl rfl (by exact Tryd.sizeOf3) rfl rfl rfl rfl rfl) ?_
    rintro _ _ rfl
    refine O.nil ?_
    refine J.seq ?_
    refine J.drawMix [(0, false), (2, false), (1, true), (3, false), (4, false), (5, false), (6, false), (7, false), (8, false)] [3] [var g10 [.func (.func 79) #[] #[.pointer (some ⟨g8, 0, none⟩), .pointer (some ⟨g3, 0, none⟩)]] 106] Tryd.mixed (by kernel_rfl) (by decide) rfl ?_
    refine Mx.q rfl (Qt.ld rfl (Cel.var 0 rfl) (o := 0) (off := 0) rfl (Cut.one Tryd.isAgg106 rfl)) rfl ?_
    refine Mx.p rfl (Pu.wholeArr Tryd.runUnderlying111 Tryd.sizeOf9 rfl) rfl ?_
    obtain ⟨e16, he16⟩ : ∃ x_, (Wd.wordsL s)[2]? = some x_ := ⟨_, List.getElem?_eq_getElem (by first | omega | (have h_ := Wd.words_cut (by assumption); omega))⟩
    refine Mx.l rfl (Lo.callV (vs := []) (caps := [.pointer (some ⟨g8, 0, none⟩), .pointer (some ⟨g3, 0, none⟩)]) (by exact Tryd.call79) rfl rfl (tc_next g8 g3 v2 (Wd.wordsL s) 2 e16 he16 (by omega)) [1] [0, 2, 3, 4, 5, 6] (by decide) rfl [var g9 [.bool ((e12 == ([97, 116])) && decide ((Dc.parse e14).2 = 0))] 4, var g11 [.int .i64 0, .int .i64 ((Dc.parse e14).1), .int .i64 0, .int .i64 0, .int .i64 0, .int .i64 0, .int .i64 0] 23, var g10 [.func (.func 79) #[] #[.pointer (some ⟨g8, 0, none⟩), .pointer (some ⟨g3, 0, none⟩)]] 106, var g3 [v2] 32, row v2 9 1 ((Wd.wordsL s).map encS), var g1 [.int .i64 0, .int .i64 0, .int .i64 0, .int .i64 0, .int .i64 0, .int .i64 0, .int .i64 0] 23] rfl (RoOk.of 4 rfl same_rd [1] (by decide) rfl (RoOk.of 5 rfl row_rd [1] (by decide) rfl RoOk.nil))) rfl ?_
    rintro _ _ ⟨_, ⟨rfl, rfl⟩, rfl⟩
    refine MxK.go [3] [0] [var g10 [.func (.func 79) #[] #[.pointer (some ⟨g8, 0, none⟩), .pointer (some ⟨g3, 0, none⟩)]] 106] (by decide) rfl (by decide) rfl ?_
    refine Mx.call (vs := [str e16, .slice (some ⟨0, 0, none⟩) 15 15]) (caps := []) rfl (by exact Tryd.call82) rfl rfl (w_Find e16 (.slice (some ⟨0, 0, none⟩) 15 15) Tc.kinds (by decide)) (fun _ _ h => h) (RoOk.roC 1 rfl (whole_rd (by rfl) (by decide)) [] rfl RoOk.nil) rfl ?_
    refine Mx.p rfl (Pu.move rfl) rfl ?_
    refine Mx.p rfl (Pu.extract rfl rfl) rfl ?_
    refine Mx.p rfl (Pu.extract rfl rfl) rfl ?_
    refine Mx.p rfl (Pu.assign rfl) rfl ?_
    refine Mx.p rfl (Pu.assign rfl) rfl ?_
    refine Mx.nil ?_
    refine J.seq ?_
    refine J.region ?_
    refine O.p (Pu.move rfl) rfl ?_
    refine O.p (Pu.add' rfl rfl (by first | omega | exact Tc.find_bnd _)) rfl ?_
    refine O.p (Pu.fieldAddr (off' := 0) Tryd.runUnderlying23 rfl Tryd.sizeOf3 rfl rfl rfl) rfl ?_
    refine O.l0 (Lo.store 2 (vs := [.int .i64 (((Wd.findR e16 Tc.kinds).1) + 1)]) [.int .i64 (((Wd.findR e16 Tc.kinds).1) + 1), .int .i64 ((Dc.parse e14).1), .int .i64 0, .int .i64 0, .int .i64 0, .int .i64 0, .int .i64 0] rfl rfl rfl (by exact Tryd.sizeOf3) rfl rfl rfl rfl rfl) ?_
    rintro _ _ rfl
    refine O.nil ?_
    refine J.seq ?_
    refine J.seq ?_
    refine J.region ?_
    refine O.q (Qt.ld rfl (Cel.var 4 rfl) (o := 0) (off := 0) rfl (Cut.one Tryd.isAgg32 rfl)) rfl ?_
    refine O.q (Qt.ld rfl (Cel.var 0 rfl) (o := 0) (off := 0) rfl (Cut.one Tryd.isAgg3 rfl)) rfl ?_
    obtain ⟨e18, he18⟩ : ∃ x_, (Wd.wordsL s)[3]? = some x_ := ⟨_, List.getElem?_eq_getElem (by first | omega | (have h_ := Wd.words_cut (by assumption); omega))⟩
    refine O.q (Qt.idxM Tryd.runUnderlying32 Tryd.sizeOf9 rfl (Src.row 5 rfl) rfl (by first | omega | (have h_ := Wd.words_cut (by assumption); omega)) (by first | omega | (have h_ := Wd.words_cut (by assumption); omega))) rfl ?_
    refine O.q (Qt.ld rfl (Cel.eltM (Src.row 5 rfl) he18) (o := (voff v2 + 3 * 1)) (off := 0) (by omega) (Cut.one Tryd.isAgg9 rfl)) rfl ?_
    refine O.p (Pu.sEql rfl rfl) rfl ?_
    refine O.nil ?_
    refine J.cond rfl (fun h19 => ?_) (fun h19 => ?_)
    ·
      refine J.seq ?_
      refine J.region ?_
      refine O.p (Pu.fieldAddr (off' := 2) Tryd.runUnderlying23 rfl Tryd.sizeOf3 rfl rfl rfl) rfl ?_
      refine O.l0 (Lo.store 2 (vs := [.int .i64 (-1)]) [.int .i64 (((Wd.findR e16 Tc.kinds).1) + 1), .int .i64 ((Dc.parse e14).1), .int .i64 (-1), .int .i64 0, .int .i64 0, .int .i64 0, .int .i64 0] rfl rfl rfl (by exact Tryd.sizeOf3) rfl rfl rfl rfl rfl) ?_
      rintro _ _ rfl
      refine O.nil ?_
      refine J.region ?_
      refine O.q (Qt.ld rfl (Cel.var 0 rfl) (o := 0) (off := 0) rfl (Cut.one Tryd.isAgg3 rfl)) rfl ?_
      refine O.p (Pu.add' rfl rfl (by decide)) rfl ?_
      refine O.l0 (Lo.store 0 (vs := [.int .i64 4]) [.int .i64 4] rfl rfl rfl (by exact Tryd.sizeOf3) rfl rfl rfl rfl rfl) ?_
      rintro _ _ rfl
      refine O.nil ?_
      refine J.seq ?_
      refine J.region ?_
      refine O.p (Pu.move rfl) rfl ?_
      obtain ⟨e20, he20⟩ : ∃ x_, (Wd.wordsL s)[4]? = some x_ := ⟨_, List.getElem?_eq_getElem (by first | omega | (have h_ := Wd.words_cut (by assumption); omega))⟩
      refine O.l (Lo.callV (vs := []) (caps := [.pointer (some ⟨g10, 0, none⟩), .pointer (some ⟨g9, 0, none⟩)]) (by exact Tryd.call80) rfl rfl (tc_num g10 g9 g8 g3 v2 (Wd.wordsL s) 4 e20 ((e12 == ([97, 116])) && decide ((Dc.parse e14).2 = 0)) he20 (by omega) (by first | omega | (have h_ := Wd.words_cut (s := s) (by assumption); omega))) [1, 0] [2, 3, 4, 5, 6] (by decide) rfl [var g11 [.int .i64 (((Wd.findR e16 Tc.kinds).1) + 1), .int .i64 ((Dc.parse e14).1), .int .i64 (-1), .int .i64 0, .int .i64 0, .int .i64 0, .int .i64 0] 23, var g10 [.func (.func 79) #[] #[.pointer (some ⟨g8, 0, none⟩), .pointer (some ⟨g3, 0, none⟩)]] 106, var g3 [v2] 32, row v2 9 1 ((Wd.wordsL s).map encS), var g1 [.int .i64 0, .int .i64 0, .int .i64 0, .int .i64 0, .int .i64 0, .int .i64 0, .int .i64 0] 23] rfl (RoOk.ro 0 rfl [1, 0] rfl (RoOk.of 3 rfl same_rd [1, 0] (by decide) rfl (RoOk.of 4 rfl same_rd [1, 0] (by decide) rfl (RoOk.of 5 rfl row_rd [1, 0] (by decide) rfl RoOk.nil))))) rfl ?_
      rintro _ _ ⟨_, ⟨rfl, rfl⟩, rfl⟩
      refine O.p (Pu.move rfl) rfl ?_
      obtain ⟨e22, he22⟩ : ∃ x_, (Wd.wordsL s)[5]? = some x_ := ⟨_, List.getElem?_eq_getElem (by first | omega | (have h_ := Wd.words_cut (by assumption); omega))⟩
      refine O.l (Lo.callV (vs := []) (caps := [.pointer (some ⟨g10, 0, none⟩), .pointer (some ⟨g9, 0, none⟩)]) (by exact Tryd.call80) rfl rfl (tc_num g10 g9 g8 g3 v2 (Wd.wordsL s) 5 e22 (((e12 == ([97, 116])) && decide ((Dc.parse e14).2 = 0)) && decide ((Dc.parse e20).2 = 0)) he22 (by omega) (by first | omega | (have h_ := Wd.words_cut (s := s) (by assumption); omega))) [0, 1] [2, 3, 4, 5, 6] (by decide) rfl [var g11 [.int .i64 (((Wd.findR e16 Tc.kinds).1) + 1), .int .i64 ((Dc.parse e14).1), .int .i64 (-1), .int .i64 0, .int .i64 0, .int .i64 0, .int .i64 0] 23, var g10 [.func (.func 79) #[] #[.pointer (some ⟨g8, 0, none⟩), .pointer (some ⟨g3, 0, none⟩)]] 106, var g3 [v2] 32, row v2 9 1 ((Wd.wordsL s).map encS), var g1 [.int .i64 0, .int .i64 0, .int .i64 0, .int .i64 0, .int .i64 0, .int .i64 0, .int .i64 0] 23] rfl (RoOk.ro 0 rfl [0, 1] rfl (RoOk.of 3 rfl same_rd [0, 1] (by decide) rfl (RoOk.of 4 rfl same_rd [0, 1] (by decide) rfl (RoOk.of 5 rfl row_rd [0, 1] (by decide) rfl RoOk.nil))))) rfl ?_
      rintro _ _ ⟨_, ⟨rfl, rfl⟩, rfl⟩
      refine O.p (Pu.move rfl) rfl ?_
      obtain ⟨e24, he24⟩ : ∃ x_, (Wd.wordsL s)[6]? = some x_ := ⟨_, List.getElem?_eq_getElem (by first | omega | (have h_ := Wd.words_cut (by assumption); omega))⟩
      refine O.l (Lo.callV (vs := []) (caps := [.pointer (some ⟨g10, 0, none⟩), .pointer (some ⟨g9, 0, none⟩)]) (by exact Tryd.call80) rfl rfl (tc_num g10 g9 g8 g3 v2 (Wd.wordsL s) 6 e24 ((((e12 == ([97, 116])) && decide ((Dc.parse e14).2 = 0)) && decide ((Dc.parse e20).2 = 0)) && decide ((Dc.parse e22).2 = 0)) he24 (by omega) (by first | omega | (have h_ := Wd.words_cut (s := s) (by assumption); omega))) [0, 1] [2, 3, 4, 5, 6] (by decide) rfl [var g11 [.int .i64 (((Wd.findR e16 Tc.kinds).1) + 1), .int .i64 ((Dc.parse e14).1), .int .i64 (-1), .int .i64 0, .int .i64 0, .int .i64 0, .int .i64 0] 23, var g10 [.func (.func 79) #[] #[.pointer (some ⟨g8, 0, none⟩), .pointer (some ⟨g3, 0, none⟩)]] 106, var g3 [v2] 32, row v2 9 1 ((Wd.wordsL s).map encS), var g1 [.int .i64 0, .int .i64 0, .int .i64 0, .int .i64 0, .int .i64 0, .int .i64 0, .int .i64 0] 23] rfl (RoOk.ro 0 rfl [0, 1] rfl (RoOk.of 3 rfl same_rd [0, 1] (by decide) rfl (RoOk.of 4 rfl same_rd [0, 1] (by decide) rfl (RoOk.of 5 rfl row_rd [0, 1] (by decide) rfl RoOk.nil))))) rfl ?_
      rintro _ _ ⟨_, ⟨rfl, rfl⟩, rfl⟩
      refine O.p (Pu.move rfl) rfl ?_
      obtain ⟨e26, he26⟩ : ∃ x_, (Wd.wordsL s)[7]? = some x_ := ⟨_, List.getElem?_eq_getElem (by first | omega | (have h_ := Wd.words_cut (by assumption); omega))⟩
      refine O.l (Lo.callV (vs := []) (caps := [.pointer (some ⟨g10, 0, none⟩), .pointer (some ⟨g9, 0, none⟩)]) (by exact Tryd.call80) rfl rfl (tc_num g10 g9 g8 g3 v2 (Wd.wordsL s) 7 e26 (((((e12 == ([97, 116])) && decide ((Dc.parse e14).2 = 0)) && decide ((Dc.parse e20).2 = 0)) && decide ((Dc.parse e22).2 = 0)) && decide ((Dc.parse e24).2 = 0)) he26 (by omega) (by first | omega | (have h_ := Wd.words_cut (s := s) (by assumption); omega))) [0, 1] [2, 3, 4, 5, 6] (by decide) rfl [var g11 [.int .i64 (((Wd.findR e16 Tc.kinds).1) + 1), .int .i64 ((Dc.parse e14).1), .int .i64 (-1), .int .i64 0, .int .i64 0, .int .i64 0, .int .i64 0] 23, var g10 [.func (.func 79) #[] #[.pointer (some ⟨g8, 0, none⟩), .pointer (some ⟨g3, 0, none⟩)]] 106, var g3 [v2] 32, row v2 9 1 ((Wd.wordsL s).map encS), var g1 [.int .i64 0, .int .i64 0, .int .i64 0, .int .i64 0, .int .i64 0, .int .i64 0, .int .i64 0] 23] rfl (RoOk.ro 0 rfl [0, 1] rfl (RoOk.of 3 rfl same_rd [0, 1] (by decide) rfl (RoOk.of 4 rfl same_rd [0, 1] (by decide) rfl (RoOk.of 5 rfl row_rd [0, 1] (by decide) rfl RoOk.nil))))) rfl ?_
      rintro _ _ ⟨_, ⟨rfl, rfl⟩, rfl⟩
      refine O.p (Pu.fieldAddr (off' := 3) Tryd.runUnderlying23 rfl Tryd.sizeOf3 rfl rfl rfl) rfl ?_
      refine O.l0 (Lo.store 2 (vs := [.int .i64 ((Dc.parse e20).1)]) [.int .i64 (((Wd.findR e16 Tc.kinds).1) + 1), .int .i64 ((Dc.parse e14).1), .int .i64 (-1), .int .i64 ((Dc.parse e20).1), .int .i64 0, .int .i64 0, .int .i64 0] rfl rfl rfl (by exact Tryd.sizeOf3) rfl rfl rfl rfl rfl) ?_
      rintro _ _ rfl
      refine O.p (Pu.fieldAddr (off' := 4) Tryd.runUnderlying23 rfl Tryd.sizeOf3 rfl rfl rfl) rfl ?_
      refine O.l0 (Lo.store 2 (vs := [.int .i64 ((Dc.parse e22).1)]) [.int .i64 (((Wd.findR e16 Tc.kinds).1) + 1), .int .i64 ((Dc.parse e14).1), .int .i64 (-1), .int .i64 ((Dc.parse e20).1), .int .i64 ((Dc.parse e22).1), .int .i64 0, .int .i64 0] rfl rfl rfl (by exact Tryd.sizeOf3) rfl rfl rfl rfl rfl) ?_
      rintro _ _ rfl
      refine O.p (Pu.fieldAddr (off' := 5) Tryd.runUnderlying23 rfl Tryd.sizeOf3 rfl rfl rfl) rfl ?_
      refine O.l0 (Lo.store 2 (vs := [.int .i64 ((Dc.parse e24).1)]) [.int .i64 (((Wd.findR e16 Tc.kinds).1) + 1), .int .i64 ((Dc.parse e14).1), .int .i64 (-1), .int .i64 ((Dc.parse e20).1), .int .i64 ((Dc.parse e22).1), .int .i64 ((Dc.parse e24).1), .int .i64 0] rfl rfl rfl (by exact Tryd.sizeOf3) rfl rfl rfl rfl rfl) ?_
      rintro _ _ rfl
      refine O.p (Pu.fieldAddr (off' := 6) Tryd.runUnderlying23 rfl Tryd.sizeOf3 rfl rfl rfl) rfl ?_
      refine O.l0 (Lo.store 2 (vs := [.int .i64 ((Dc.parse e26).1)]) [.int .i64 (((Wd.findR e16 Tc.kinds).1) + 1), .int .i64 ((Dc.parse e14).1), .int .i64 (-1), .int .i64 ((Dc.parse e20).1), .int .i64 ((Dc.parse e22).1), .int .i64 ((Dc.parse e24).1), .int .i64 ((Dc.parse e26).1)] rfl rfl rfl (by exact Tryd.sizeOf3) rfl rfl rfl rfl rfl) ?_
      rintro _ _ rfl
      refine O.nil ?_
      refine J.seq ?_
      refine J.seq ?_
      refine J.region ?_
      refine O.p (Pu.move rfl) rfl ?_
      refine O.p (Pu.not rfl) rfl ?_
      refine O.p (Pu.move rfl) rfl ?_
      refine by_bool (!((Wd.findR e16 Tc.kinds).2)) (fun h28 => ?_) (fun h28 => ?_)
      ·
        have h29 : ((Wd.findR e16 Tc.kinds).2) = false := not_flip h28
        refine O.gskip (t := 67) rfl rfl (no_bool (by rw [h28]; decide)) rfl rfl ?_
        refine O.gskip (t := 67) rfl rfl (no_bool (by rw [h28]; decide)) rfl rfl ?_
        refine O.p (Pu.pickT rfl h28 rfl) rfl ?_
        refine O.nil ?_
        refine J.condT rfl rfl ?_
        refine J.seq ?_
        refine J.region ?_
        refine O.p (Pu.build [] [.int .i64 0, .int .i64 0, .int .i64 0, .int .i64 0, .int .i64 0, .int .i64 0, .int .i64 0] #[(0, 1), (1, 1), (2, 1), (3, 1), (4, 1), (5, 1), (6, 1)] Tryd.runUnderlying23 Tryd.zeroValue23 (places23 Tryd.underlying23) rfl (by kernel_rfl)) rfl ?_
        refine O.l0 (Lo.store 6 (vs := [.int .i64 0, .int .i64 0, .int .i64 0, .int .i64 0, .int .i64 0, .int .i64 0, .int .i64 0]) [.int .i64 0, .int .i64 0, .int .i64 0, .int .i64 0, .int .i64 0, .int .i64 0, .int .i64 0] rfl rfl rfl (by exact Tryd.sizeOf23) rfl rfl rfl rfl rfl) ?_
        rintro _ _ rfl
        refine O.p (Pu.assign rfl) rfl ?_
        refine O.nil ?_
        exact J.ret (Fin.ret (rs := [.cell 2 23, .tmp 3]) rfl [_, _] ⟨⟨_, _, 0, 0, _, rfl, (Cel.var 6 rfl), rfl, (Cut.agg [.int .i64 0, .int .i64 0, .int .i64 0, .int .i64 0, .int .i64 0, .int .i64 0, .int .i64 0] Tryd.isAgg23 Tryd.sizeOf23 rfl rfl)⟩, rfl, trivial⟩ [] (by decide) [] rfl ⟨(by rw [Tc.parse_no (Tc.list8 (by omega) he12 he14 he16 he18 he20 he22 he24 he26) (by refine Bool.eq_false_iff.2 fun hk_ => ?_; simp only [Tc.evOk, Tc.sOk, Tc.atW, Tc.client, Bool.and_eq_true, Bool.or_eq_true, Bool.not_eq_true', decide_eq_true_eq, decide_eq_false_iff_not] at hk_; simp_all)]; rfl), rfl⟩)
      ·
        have h30 : ((Wd.findR e16 Tc.kinds).2) = true := not_flip h28
        refine O.gq (t := 67) rfl rfl h28 rfl (Qt.ld rfl (Cel.var 0 rfl) (o := 0) (off := 0) rfl (Cut.one Tryd.isAgg4 rfl)) rfl ?_
        refine O.gq (t := 67) rfl rfl h28 rfl (Pu.qt (Pu.not rfl)) rfl ?_
        refine O.p (Pu.pickF rfl h28 rfl) rfl ?_
        refine O.nil ?_
        refine J.cond rfl (fun h31 => ?_) (fun h31 => ?_)
        ·
          have h32 : ((((((e12 == ([97, 116])) && decide ((Dc.parse e14).2 = 0)) && decide ((Dc.parse e20).2 = 0)) && decide ((Dc.parse e22).2 = 0)) && decide ((Dc.parse e24).2 = 0)) && decide ((Dc.parse e26).2 = 0)) = false := not_flip h31
          refine J.seq ?_
          refine J.region ?_
          refine O.p (Pu.build [] [.int .i64 0, .int .i64 0, .int .i64 0, .int .i64 0, .int .i64 0, .int .i64 0, .int .i64 0] #[(0, 1), (1, 1), (2, 1), (3, 1), (4, 1), (5, 1), (6, 1)] Tryd.runUnderlying23 Tryd.zeroValue23 (places23 Tryd.underlying23) rfl (by kernel_rfl)) rfl ?_
          refine O.l0 (Lo.store 6 (vs := [.int .i64 0, .int .i64 0, .int .i64 0, .int .i64 0, .int .i64 0, .int .i64 0, .int .i64 0]) [.int .i64 0, .int .i64 0, .int .i64 0, .int .i64 0, .int .i64 0, .int .i64 0, .int .i64 0] rfl rfl rfl (by exact Tryd.sizeOf23) rfl rfl rfl rfl rfl) ?_
          rintro _ _ rfl
          refine O.p (Pu.assign rfl) rfl ?_
          refine O.nil ?_
          exact J.ret (Fin.ret (rs := [.cell 2 23, .tmp 3]) rfl [_, _] ⟨⟨_, _, 0, 0, _, rfl, (Cel.var 6 rfl), rfl, (Cut.agg [.int .i64 0, .int .i64 0, .int .i64 0, .int .i64 0, .int .i64 0, .int .i64 0, .int .i64 0] Tryd.isAgg23 Tryd.sizeOf23 rfl rfl)⟩, rfl, trivial⟩ [] (by decide) [] rfl ⟨(by rw [Tc.parse_no (Tc.list8 (by omega) he12 he14 he16 he18 he20 he22 he24 he26) (by refine Bool.eq_false_iff.2 fun hk_ => ?_; simp only [Tc.evOk, Tc.sOk, Tc.atW, Tc.client, Bool.and_eq_true, Bool.or_eq_true, Bool.not_eq_true', decide_eq_true_eq, decide_eq_false_iff_not] at hk_; simp_all)]; rfl), rfl⟩)
        ·
          have h33 : ((((((e12 == ([97, 116])) && decide ((Dc.parse e14).2 = 0)) && decide ((Dc.parse e20).2 = 0)) && decide ((Dc.parse e22).2 = 0)) && decide ((Dc.parse e24).2 = 0)) && decide ((Dc.parse e26).2 = 0)) = true := not_flip h31
          refine J.skip ?_
          refine J.seq ?_
          refine J.region ?_
          refine O.q (Qt.ld rfl (Cel.var 2 rfl) (o := 0) (off := 0) rfl (Cut.agg [.int .i64 (((Wd.findR e16 Tc.kinds).1) + 1), .int .i64 ((Dc.parse e14).1), .int .i64 (-1), .int .i64 ((Dc.parse e20).1), .int .i64 ((Dc.parse e22).1), .int .i64 ((Dc.parse e24).1), .int .i64 ((Dc.parse e26).1)] Tryd.isAgg23 Tryd.sizeOf23 rfl rfl)) rfl ?_
          refine O.l0 (Lo.store 6 (vs := [.int .i64 (((Wd.findR e16 Tc.kinds).1) + 1), .int .i64 ((Dc.parse e14).1), .int .i64 (-1), .int .i64 ((Dc.parse e20).1), .int .i64 ((Dc.parse e22).1), .int .i64 ((Dc.parse e24).1), .int .i64 ((Dc.parse e26).1)]) [.int .i64 (((Wd.findR e16 Tc.kinds).1) + 1), .int .i64 ((Dc.parse e14).1), .int .i64 (-1), .int .i64 ((Dc.parse e20).1), .int .i64 ((Dc.parse e22).1), .int .i64 ((Dc.parse e24).1), .int .i64 ((Dc.parse e26).1)] rfl rfl rfl (by exact Tryd.sizeOf23) rfl rfl rfl rfl rfl) ?_
          rintro _ _ rfl
          refine O.p (Pu.assign rfl) rfl ?_
          refine O.nil ?_
          exact J.ret (Fin.ret (rs := [.cell 2 23, .tmp 3]) rfl [_, _] ⟨⟨_, _, 0, 0, _, rfl, (Cel.var 6 rfl), rfl, (Cut.agg [.int .i64 (((Wd.findR e16 Tc.kinds).1) + 1), .int .i64 ((Dc.parse e14).1), .int .i64 (-1), .int .i64 ((Dc.parse e20).1), .int .i64 ((Dc.parse e22).1), .int .i64 ((Dc.parse e24).1), .int .i64 ((Dc.parse e26).1)] Tryd.isAgg23 Tryd.sizeOf23 rfl rfl)⟩, rfl, trivial⟩ [] (by decide) [] rfl ⟨(by rw [Tc.parse_go (Tc.list8 (by omega) he12 he14 he16 he18 he20 he22 he24 he26) (Tc.sOf_yes (by assumption)) (by simp only [Tc.evOk, Tc.sOk, Tc.atW, Tc.client]; simp_all)]; rfl), rfl⟩)
    ·
      refine J.seq ?_
      refine J.region ?_
      refine O.p (Pu.move rfl) rfl ?_
      refine O.l (Lo.callV (vs := []) (caps := [.pointer (some ⟨g10, 0, none⟩), .pointer (some ⟨g9, 0, none⟩)]) (by exact Tryd.call80) rfl rfl (tc_num g10 g9 g8 g3 v2 (Wd.wordsL s) 3 e18 ((e12 == ([97, 116])) && decide ((Dc.parse e14).2 = 0)) he18 (by omega) (by first | omega | (have h_ := Wd.words_cut (s := s) (by assumption); omega))) [1, 0] [2, 3, 4, 5, 6] (by decide) rfl [var g11 [.int .i64 (((Wd.findR e16 Tc.kinds).1) + 1), .int .i64 ((Dc.parse e14).1), .int .i64 0, .int .i64 0, .int .i64 0, .int .i64 0, .int .i64 0] 23, var g10 [.func (.func 79) #[] #[.pointer (some ⟨g8, 0, none⟩), .pointer (some ⟨g3, 0, none⟩)]] 106, var g3 [v2] 32, row v2 9 1 ((Wd.wordsL s).map encS), var g1 [.int .i64 0, .int .i64 0, .int .i64 0, .int .i64 0, .int .i64 0, .int .i64 0, .int .i64 0] 23] rfl (RoOk.ro 0 rfl [1, 0] rfl (RoOk.of 3 rfl same_rd [1, 0] (by decide) rfl (RoOk.of 4 rfl same_rd [1, 0] (by decide) rfl (RoOk.of 5 rfl row_rd [1, 0] (by decide) rfl RoOk.nil))))) rfl ?_
      rintro _ _ ⟨_, ⟨rfl, rfl⟩, rfl⟩
      refine O.p (Pu.fieldAddr (off' := 2) Tryd.runUnderlying23 rfl Tryd.sizeOf3 rfl rfl rfl) rfl ?_
      refine O.l0 (Lo.store 2 (vs := [.int .i64 ((Dc.parse e18).1)]) [.int .i64 (((Wd.findR e16 Tc.kinds).1) + 1), .int .i64 ((Dc.parse e14).1), .int .i64 ((Dc.parse e18).1), .int .i64 0, .int .i64 0, .int .i64 0, .int .i64 0] rfl rfl rfl (by exact Tryd.sizeOf3) rfl rfl rfl rfl rfl) ?_
      rintro _ _ rfl
      refine O.nil ?_
      refine J.region ?_
      refine O.q (Qt.ld rfl (Cel.var 0 rfl) (o := 0) (off := 0) rfl (Cut.one Tryd.isAgg4 rfl)) rfl ?_
      refine O.p (Pu.move rfl) rfl ?_
      refine by_bool (((e12 == ([97, 116])) && decide ((Dc.parse e14).2 = 0)) && decide ((Dc.parse e18).2 = 0)) (fun h35 => ?_) (fun h35 => ?_)
      ·
        refine O.gq (t := 48) rfl rfl h35 rfl (Pu.qt (Pu.fieldAddr (off' := 2) Tryd.runUnderlying23 rfl Tryd.sizeOf3 rfl rfl rfl)) rfl ?_
        refine O.gq (t := 48) rfl rfl h35 rfl (Qt.ld rfl (Cel.var 2 rfl) (o := 0) (off := 2) rfl (Cut.one Tryd.isAgg3 rfl)) rfl ?_
        refine O.gq (t := 48) rfl rfl h35 rfl (Pu.qt (Pu.neq rfl rfl)) rfl ?_
        refine O.p (Pu.pickT rfl h35 rfl) rfl ?_
        refine O.l0 (Lo.store 0 (vs := [.bool (decide (((Dc.parse e18).1) ≠ (-1)))]) [.bool (decide (((Dc.parse e18).1) ≠ (-1)))] rfl rfl rfl (by exact Tryd.sizeOf4) rfl rfl rfl rfl rfl) ?_
        rintro _ _ rfl
        refine O.nil ?_
        refine J.seq ?_
        refine J.region ?_
        refine O.p (Pu.move rfl) rfl ?_
        obtain ⟨e36, he36⟩ : ∃ x_, (Wd.wordsL s)[4]? = some x_ := ⟨_, List.getElem?_eq_getElem (by first | omega | (have h_ := Wd.words_cut (by assumption); omega))⟩
        refine O.l (Lo.callV (vs := []) (caps := [.pointer (some ⟨g10, 0, none⟩), .pointer (some ⟨g9, 0, none⟩)]) (by exact Tryd.call80) rfl rfl (tc_num g10 g9 g8 g3 v2 (Wd.wordsL s) 4 e36 (decide (((Dc.parse e18).1) ≠ (-1))) he36 (by omega) (by first | omega | (have h_ := Wd.words_cut (s := s) (by assumption); omega))) [0, 1] [2, 3, 4, 5, 6] (by decide) rfl [var g11 [.int .i64 (((Wd.findR e16 Tc.kinds).1) + 1), .int .i64 ((Dc.parse e14).1), .int .i64 ((Dc.parse e18).1), .int .i64 0, .int .i64 0, .int .i64 0, .int .i64 0] 23, var g10 [.func (.func 79) #[] #[.pointer (some ⟨g8, 0, none⟩), .pointer (some ⟨g3, 0, none⟩)]] 106, var g3 [v2] 32, row v2 9 1 ((Wd.wordsL s).map encS), var g1 [.int .i64 0, .int .i64 0, .int .i64 0, .int .i64 0, .int .i64 0, .int .i64 0, .int .i64 0] 23] rfl (RoOk.ro 0 rfl [0, 1] rfl (RoOk.of 3 rfl same_rd [0, 1] (by decide) rfl (RoOk.of 4 rfl same_rd [0, 1] (by decide) rfl (RoOk.of 5 rfl row_rd [0, 1] (by decide) rfl RoOk.nil))))) rfl ?_
        rintro _ _ ⟨_, ⟨rfl, rfl⟩, rfl⟩
        refine O.p (Pu.move rfl) rfl ?_
        obtain ⟨e38, he38⟩ : ∃ x_, (Wd.wordsL s)[5]? = some x_ := ⟨_, List.getElem?_eq_getElem (by first | omega | (have h_ := Wd.words_cut (by assumption); omega))⟩
        refine O.l (Lo.callV (vs := []) (caps := [.pointer (some ⟨g10, 0, none⟩), .pointer (some ⟨g9, 0, none⟩)]) (by exact Tryd.call80) rfl rfl (tc_num g10 g9 g8 g3 v2 (Wd.wordsL s) 5 e38 ((decide (((Dc.parse e18).1) ≠ (-1))) && decide ((Dc.parse e36).2 = 0)) he38 (by omega) (by first | omega | (have h_ := Wd.words_cut (s := s) (by assumption); omega))) [0, 1] [2, 3, 4, 5, 6] (by decide) rfl [var g11 [.int .i64 (((Wd.findR e16 Tc.kinds).1) + 1), .int .i64 ((Dc.parse e14).1), .int .i64 ((Dc.parse e18).1), .int .i64 0, .int .i64 0, .int .i64 0, .int .i64 0] 23, var g10 [.func (.func 79) #[] #[.pointer (some ⟨g8, 0, none⟩), .pointer (some ⟨g3, 0, none⟩)]] 106, var g3 [v2] 32, row v2 9 1 ((Wd.wordsL s).map encS), var g1 [.int .i64 0, .int .i64 0, .int .i64 0, .int .i64 0, .int .i64 0, .int .i64 0, .int .i64 0] 23] rfl (RoOk.ro 0 rfl [0, 1] rfl (RoOk.of 3 rfl same_rd [0, 1] (by decide) rfl (RoOk.of 4 rfl same_rd [0, 1] (by decide) rfl (RoOk.of 5 rfl row_rd [0, 1] (by decide) rfl RoOk.nil))))) rfl ?_
        rintro _ _ ⟨_, ⟨rfl, rfl⟩, rfl⟩
        refine O.p (Pu.move rfl) rfl ?_
        obtain ⟨e40, he40⟩ : ∃ x_, (Wd.wordsL s)[6]? = some x_ := ⟨_, List.getElem?_eq_getElem (by first | omega | (have h_ := Wd.words_cut (by assumption); omega))⟩
        refine O.l (Lo.callV (vs := []) (caps := [.pointer (some ⟨g10, 0, none⟩), .pointer (some ⟨g9, 0, none⟩)]) (by exact Tryd.call80) rfl rfl (tc_num g10 g9 g8 g3 v2 (Wd.wordsL s) 6 e40 (((decide (((Dc.parse e18).1) ≠ (-1))) && decide ((Dc.parse e36).2 = 0)) && decide ((Dc.parse e38).2 = 0)) he40 (by omega) (by first | omega | (have h_ := Wd.words_cut (s := s) (by assumption); omega))) [0, 1] [2, 3, 4, 5, 6] (by decide) rfl [var g11 [.int .i64 (((Wd.findR e16 Tc.kinds).1) + 1), .int .i64 ((Dc.parse e14).1), .int .i64 ((Dc.parse e18).1), .int .i64 0, .int .i64 0, .int .i64 0, .int .i64 0] 23, var g10 [.func (.func 79) #[] #[.pointer (some ⟨g8, 0, none⟩), .pointer (some ⟨g3, 0, none⟩)]] 106, var g3 [v2] 32, row v2 9 1 ((Wd.wordsL s).map encS), var g1 [.int .i64 0, .int .i64 0, .int .i64 0, .int .i64 0, .int .i64 0, .int .i64 0, .int .i64 0] 23] rfl (RoOk.ro 0 rfl [0, 1] rfl (RoOk.of 3 rfl same_rd [0, 1] (by decide) rfl (RoOk.of 4 rfl same_rd [0, 1] (by decide) rfl (RoOk.of 5 rfl row_rd [0, 1] (by decide) rfl RoOk.nil))))) rfl ?_
        rintro _ _ ⟨_, ⟨rfl, rfl⟩, rfl⟩
        refine O.p (Pu.move rfl) rfl ?_
        obtain ⟨e42, he42⟩ : ∃ x_, (Wd.wordsL s)[7]? = some x_ := ⟨_, List.getElem?_eq_getElem (by first | omega | (have h_ := Wd.words_cut (by assumption); omega))⟩
        refine O.l (Lo.callV (vs := []) (caps := [.pointer (some ⟨g10, 0, none⟩), .pointer (some ⟨g9, 0, none⟩)]) (by exact Tryd.call80) rfl rfl (tc_num g10 g9 g8 g3 v2 (Wd.wordsL s) 7 e42 ((((decide (((Dc.parse e18).1) ≠ (-1))) && decide ((Dc.parse e36).2 = 0)) && decide ((Dc.parse e38).2 = 0)) && decide ((Dc.parse e40).2 = 0)) he42 (by omega) (by first | omega | (have h_ := Wd.words_cut (s := s) (by assumption); omega))) [0, 1] [2, 3, 4, 5, 6] (by decide) rfl [var g11 [.int .i64 (((Wd.findR e16 Tc.kinds).1) + 1), .int .i64 ((Dc.parse e14).1), .int .i64 ((Dc.parse e18).1), .int .i64 0, .int .i64 0, .int .i64 0, .int .i64 0] 23, var g10 [.func (.func 79) #[] #[.pointer (some ⟨g8, 0, none⟩), .pointer (some ⟨g3, 0, none⟩)]] 106, var g3 [v2] 32, row v2 9 1 ((Wd.wordsL s).map encS), var g1 [.int .i64 0, .int .i64 0, .int .i64 0, .int .i64 0, .int .i64 0, .int .i64 0, .int .i64 0] 23] rfl (RoOk.ro 0 rfl [0, 1] rfl (RoOk.of 3 rfl same_rd [0, 1] (by decide) rfl (RoOk.of 4 rfl same_rd [0, 1] (by decide) rfl (RoOk.of 5 rfl row_rd [0, 1] (by decide) rfl RoOk.nil))))) rfl ?_
        rintro _ _ ⟨_, ⟨rfl, rfl⟩, rfl⟩
        refine O.p (Pu.fieldAddr (off' := 3) Tryd.runUnderlying23 rfl Tryd.sizeOf3 rfl rfl rfl) rfl ?_
        refine O.l0 (Lo.store 2 (vs := [.int .i64 ((Dc.parse e36).1)]) [.int .i64 (((Wd.findR e16 Tc.kinds).1) + 1), .int .i64 ((Dc.parse e14).1), .int .i64 ((Dc.parse e18).1), .int .i64 ((Dc.parse e36).1), .int .i64 0, .int .i64 0, .int .i64 0] rfl rfl rfl (by exact Tryd.sizeOf3) rfl rfl rfl rfl rfl) ?_
        rintro _ _ rfl
        refine O.p (Pu.fieldAddr (off' := 4) Tryd.runUnderlying23 rfl Tryd.sizeOf3 rfl rfl rfl) rfl ?_
        refine O.l0 (Lo.store 2 (vs := [.int .i64 ((Dc.parse e38).1)]) [.int .i64 (((Wd.findR e16 Tc.kinds).1) + 1), .int .i64 ((Dc.parse e14).1), .int .i64 ((Dc.parse e18).1), .int .i64 ((Dc.parse e36).1), .int .i64 ((Dc.parse e38).1), .int .i64 0, .int .i64 0] rfl rfl rfl (by exact Tryd.sizeOf3) rfl rfl rfl rfl rfl) ?_
        rintro _ _ rfl
        refine O.p (Pu.fieldAddr (off' := 5) Tryd.runUnderlying23 rfl Tryd.sizeOf3 rfl rfl rfl) rfl ?_
        refine O.l0 (Lo.store 2 (vs := [.int .i64 ((Dc.parse e40).1)]) [.int .i64 (((Wd.findR e16 Tc.kinds).1) + 1), .int .i64 ((Dc.parse e14).1), .int .i64 ((Dc.parse e18).1), .int .i64 ((Dc.parse e36).1), .int .i64 ((Dc.parse e38).1), .int .i64 ((Dc.parse e40).1), .int .i64 0] rfl rfl rfl (by exact Tryd.sizeOf3) rfl rfl rfl rfl rfl) ?_
        rintro _ _ rfl
        refine O.p (Pu.fieldAddr (off' := 6) Tryd.runUnderlying23 rfl Tryd.sizeOf3 rfl rfl rfl) rfl ?_
        refine O.l0 (Lo.store 2 (vs := [.int .i64 ((Dc.parse e42).1)]) [.int .i64 (((Wd.findR e16 Tc.kinds).1) + 1), .int .i64 ((Dc.parse e14).1), .int .i64 ((Dc.parse e18).1), .int .i64 ((Dc.parse e36).1), .int .i64 ((Dc.parse e38).1), .int .i64 ((Dc.parse e40).1), .int .i64 ((Dc.parse e42).1)] rfl rfl rfl (by exact Tryd.sizeOf3) rfl rfl rfl rfl rfl) ?_
        rintro _ _ rfl
        refine O.nil ?_
        refine J.seq ?_
        refine J.seq ?_
        refine J.region ?_
        refine O.p (Pu.move rfl) rfl ?_
        refine O.p (Pu.not rfl) rfl ?_
        refine O.p (Pu.move rfl) rfl ?_
        refine by_bool (!((Wd.findR e16 Tc.kinds).2)) (fun h44 => ?_) (fun h44 => ?_)
        ·
          have h45 : ((Wd.findR e16 Tc.kinds).2) = false := not_flip h44
          refine O.gskip (t := 67) rfl rfl (no_bool (by rw [h44]; decide)) rfl rfl ?_
          refine O.gskip (t := 67) rfl rfl (no_bool (by rw [h44]; decide)) rfl rfl ?_
          refine O.p (Pu.pickT rfl h44 rfl) rfl ?_
          refine O.nil ?_
          refine J.condT rfl rfl ?_
          refine J.seq ?_
          refine J.region ?_
          refine O.p (Pu.build [] [.int .i64 0, .int .i64 0, .int .i64 0, .int .i64 0, .int .i64 0, .int .i64 0, .int .i64 0] #[(0, 1), (1, 1), (2, 1), (3, 1), (4, 1), (5, 1), (6, 1)] Tryd.runUnderlying23 Tryd.zeroValue23 (places23 Tryd.underlying23) rfl (by kernel_rfl)) rfl ?_
          refine O.l0 (Lo.store 6 (vs := [.int .i64 0, .int .i64 0, .int .i64 0, .int .i64 0, .int .i64 0, .int .i64 0, .int .i64 0]) [.int .i64 0, .int .i64 0, .int .i64 0, .int .i64 0, .int .i64 0, .int .i64 0, .int .i64 0] rfl rfl rfl (by exact Tryd.sizeOf23) rfl rfl rfl rfl rfl) ?_
          rintro _ _ rfl
          refine O.p (Pu.assign rfl) rfl ?_
          refine O.nil ?_
          exact J.ret (Fin.ret (rs := [.cell 2 23, .tmp 3]) rfl [_, _] ⟨⟨_, _, 0, 0, _, rfl, (Cel.var 6 rfl), rfl, (Cut.agg [.int .i64 0, .int .i64 0, .int .i64 0, .int .i64 0, .int .i64 0, .int .i64 0, .int .i64 0] Tryd.isAgg23 Tryd.sizeOf23 rfl rfl)⟩, rfl, trivial⟩ [] (by decide) [] rfl ⟨(by rw [Tc.parse_no (Tc.list8 (by omega) he12 he14 he16 he18 he36 he38 he40 he42) (by refine Bool.eq_false_iff.2 fun hk_ => ?_; simp only [Tc.evOk, Tc.sOk, Tc.atW, Tc.client, Bool.and_eq_true, Bool.or_eq_true, Bool.not_eq_true', decide_eq_true_eq, decide_eq_false_iff_not] at hk_; simp_all)]; rfl), rfl⟩)
        ·
          have h46 : ((Wd.findR e16 Tc.kinds).2) = true := not_flip h44
          refine O.gq (t := 67) rfl rfl h44 rfl (Qt.ld rfl (Cel.var 0 rfl) (o := 0) (off := 0) rfl (Cut.one Tryd.isAgg4 rfl)) rfl ?_
          refine O.gq (t := 67) rfl rfl h44 rfl (Pu.qt (Pu.not rfl)) rfl ?_
          refine O.p (Pu.pickF rfl h44 rfl) rfl ?_
          refine O.nil ?_
          refine J.cond rfl (fun h47 => ?_) (fun h47 => ?_)
          ·
            have h48 : (((((decide (((Dc.parse e18).1) ≠ (-1))) && decide ((Dc.parse e36).2 = 0)) && decide ((Dc.parse e38).2 = 0)) && decide ((Dc.parse e40).2 = 0)) && decide ((Dc.parse e42).2 = 0)) = false := not_flip h47
            refine J.seq ?_
            refine J.region ?_
            refine O.p (Pu.build [] [.int .i64 0, .int .i64 0, .int .i64 0, .int .i64 0, .int .i64 0, .int .i64 0, .int .i64 0] #[(0, 1), (1, 1), (2, 1), (3, 1), (4, 1), (5, 1), (6, 1)] Tryd.runUnderlying23 Tryd.zeroValue23 (places23 Tryd.underlying23) rfl (by kernel_rfl)) rfl ?_
            refine O.l0 (Lo.store 6 (vs := [.int .i64 0, .int .i64 0, .int .i64 0, .int .i64 0, .int .i64 0, .int .i64 0, .int .i64 0]) [.int .i64 0, .int .i64 0, .int .i64 0, .int .i64 0, .int .i64 0, .int .i64 0, .int .i64 0] rfl rfl rfl (by exact Tryd.sizeOf23) rfl rfl rfl rfl rfl) ?_
            rintro _ _ rfl
            refine O.p (Pu.assign rfl) rfl ?_
            refine O.nil ?_
            exact J.ret (Fin.ret (rs := [.cell 2 23, .tmp 3]) rfl [_, _] ⟨⟨_, _, 0, 0, _, rfl, (Cel.var 6 rfl), rfl, (Cut.agg [.int .i64 0, .int .i64 0, .int .i64 0, .int .i64 0, .int .i64 0, .int .i64 0, .int .i64 0] Tryd.isAgg23 Tryd.sizeOf23 rfl rfl)⟩, rfl, trivial⟩ [] (by decide) [] rfl ⟨(by rw [Tc.parse_no (Tc.list8 (by omega) he12 he14 he16 he18 he36 he38 he40 he42) (by refine Bool.eq_false_iff.2 fun hk_ => ?_; simp only [Tc.evOk, Tc.sOk, Tc.atW, Tc.client, Bool.and_eq_true, Bool.or_eq_true, Bool.not_eq_true', decide_eq_true_eq, decide_eq_false_iff_not] at hk_; simp_all)]; rfl), rfl⟩)
          ·
            have h49 : (((((decide (((Dc.parse e18).1) ≠ (-1))) && decide ((Dc.parse e36).2 = 0)) && decide ((Dc.parse e38).2 = 0)) && decide ((Dc.parse e40).2 = 0)) && decide ((Dc.parse e42).2 = 0)) = true := not_flip h47
            refine J.skip ?_
            refine J.seq ?_
            refine J.region ?_
            refine O.q (Qt.ld rfl (Cel.var 2 rfl) (o := 0) (off := 0) rfl (Cut.agg [.int .i64 (((Wd.findR e16 Tc.kinds).1) + 1), .int .i64 ((Dc.parse e14).1), .int .i64 ((Dc.parse e18).1), .int .i64 ((Dc.parse e36).1), .int .i64 ((Dc.parse e38).1), .int .i64 ((Dc.parse e40).1), .int .i64 ((Dc.parse e42).1)] Tryd.isAgg23 Tryd.sizeOf23 rfl rfl)) rfl ?_
            refine O.l0 (Lo.store 6 (vs := [.int .i64 (((Wd.findR e16 Tc.kinds).1) + 1), .int .i64 ((Dc.parse e14).1), .int .i64 ((Dc.parse e18).1), .int .i64 ((Dc.parse e36).1), .int .i64 ((Dc.parse e38).1), .int .i64 ((Dc.parse e40).1), .int .i64 ((Dc.parse e42).1)]) [.int .i64 (((Wd.findR e16 Tc.kinds).1) + 1), .int .i64 ((Dc.parse e14).1), .int .i64 ((Dc.parse e18).1), .int .i64 ((Dc.parse e36).1), .int .i64 ((Dc.parse e38).1), .int .i64 ((Dc.parse e40).1), .int .i64 ((Dc.parse e42).1)] rfl rfl rfl (by exact Tryd.sizeOf23) rfl rfl rfl rfl rfl) ?_
            rintro _ _ rfl
            refine O.p (Pu.assign rfl) rfl ?_
            refine O.nil ?_
            exact J.ret (Fin.ret (rs := [.cell 2 23, .tmp 3]) rfl [_, _] ⟨⟨_, _, 0, 0, _, rfl, (Cel.var 6 rfl), rfl, (Cut.agg [.int .i64 (((Wd.findR e16 Tc.kinds).1) + 1), .int .i64 ((Dc.parse e14).1), .int .i64 ((Dc.parse e18).1), .int .i64 ((Dc.parse e36).1), .int .i64 ((Dc.parse e38).1), .int .i64 ((Dc.parse e40).1), .int .i64 ((Dc.parse e42).1)] Tryd.isAgg23 Tryd.sizeOf23 rfl rfl)⟩, rfl, trivial⟩ [] (by decide) [] rfl ⟨(by rw [Tc.parse_go (Tc.list8 (by omega) he12 he14 he16 he18 he36 he38 he40 he42) (Tc.sOf_no (by assumption)) (by simp only [Tc.evOk, Tc.sOk, Tc.atW, Tc.client]; simp_all)]; rfl), rfl⟩)
      ·
        refine O.gskip (t := 48) rfl rfl (no_bool (by rw [h35]; decide)) rfl rfl ?_
        refine O.gskip (t := 48) rfl rfl (no_bool (by rw [h35]; decide)) rfl rfl ?_
        refine O.gskip (t := 48) rfl rfl (no_bool (by rw [h35]; decide)) rfl rfl ?_
        refine O.p (Pu.pickF rfl h35 rfl) rfl ?_
        refine O.l0 (Lo.store 0 (vs := [.bool false]) [.bool false] rfl rfl rfl (by exact Tryd.sizeOf4) rfl rfl rfl rfl rfl) ?_
        rintro _ _ rfl
        refine O.nil ?_
        refine J.seq ?_
        refine J.region ?_
        refine O.p (Pu.move rfl) rfl ?_
        obtain ⟨e50, he50⟩ : ∃ x_, (Wd.wordsL s)[4]? = some x_ := ⟨_, List.getElem?_eq_getElem (by first | omega | (have h_ := Wd.words_cut (by assumption); omega))⟩
        refine O.l (Lo.callV (vs := []) (caps := [.pointer (some ⟨g10, 0, none⟩), .pointer (some ⟨g9, 0, none⟩)]) (by exact Tryd.call80) rfl rfl (tc_num g10 g9 g8 g3 v2 (Wd.wordsL s) 4 e50 false he50 (by omega) (by first | omega | (have h_ := Wd.words_cut (s := s) (by assumption); omega))) [0, 1] [2, 3, 4, 5, 6] (by decide) rfl [var g11 [.int .i64 (((Wd.findR e16 Tc.kinds).1) + 1), .int .i64 ((Dc.parse e14).1), .int .i64 ((Dc.parse e18).1), .int .i64 0, .int .i64 0, .int .i64 0, .int .i64 0] 23, var g10 [.func (.func 79) #[] #[.pointer (some ⟨g8, 0, none⟩), .pointer (some ⟨g3, 0, none⟩)]] 106, var g3 [v2] 32, row v2 9 1 ((Wd.wordsL s).map encS), var g1 [.int .i64 0, .int .i64 0, .int .i64 0, .int .i64 0, .int .i64 0, .int .i64 0, .int .i64 0] 23] rfl (RoOk.ro 0 rfl [0, 1] rfl (RoOk.of 3 rfl same_rd [0, 1] (by decide) rfl (RoOk.of 4 rfl same_rd [0, 1] (by decide) rfl (RoOk.of 5 rfl row_rd [0, 1] (by decide) rfl RoOk.nil))))) rfl ?_
        rintro _ _ ⟨_, ⟨rfl, rfl⟩, rfl⟩
        refine O.p (Pu.move rfl) rfl ?_
        obtain ⟨e52, he52⟩ : ∃ x_, (Wd.wordsL s)[5]? = some x_ := ⟨_, List.getElem?_eq_getElem (by first | omega | (have h_ := Wd.words_cut (by assumption); omega))⟩
        refine O.l (Lo.callV (vs := []) (caps := [.pointer (some ⟨g10, 0, none⟩), .pointer (some ⟨g9, 0, none⟩)]) (by exact Tryd.call80) rfl rfl (tc_num g10 g9 g8 g3 v2 (Wd.wordsL s) 5 e52 (false && decide ((Dc.parse e50).2 = 0)) he52 (by omega) (by first | omega | (have h_ := Wd.words_cut (s := s) (by assumption); omega))) [0, 1] [2, 3, 4, 5, 6] (by decide) rfl [var g11 [.int .i64 (((Wd.findR e16 Tc.kinds).1) + 1), .int .i64 ((Dc.parse e14).1), .int .i64 ((Dc.parse e18).1), .int .i64 0, .int .i64 0, .int .i64 0, .int .i64 0] 23, var g10 [.func (.func 79) #[] #[.pointer (some ⟨g8, 0, none⟩), .pointer (some ⟨g3, 0, none⟩)]] 106, var g3 [v2] 32, row v2 9 1 ((Wd.wordsL s).map encS), var g1 [.int .i64 0, .int .i64 0, .int .i64 0, .int .i64 0, .int .i64 0, .int .i64 0, .int .i64 0] 23] rfl (RoOk.ro 0 rfl [0, 1] rfl (RoOk.of 3 rfl same_rd [0, 1] (by decide) rfl (RoOk.of 4 rfl same_rd [0, 1] (by decide) rfl (RoOk.of 5 rfl row_rd [0, 1] (by decide) rfl RoOk.nil))))) rfl ?_
        rintro _ _ ⟨_, ⟨rfl, rfl⟩, rfl⟩
        refine O.p (Pu.move rfl) rfl ?_
        obtain ⟨e54, he54⟩ : ∃ x_, (Wd.wordsL s)[6]? = some x_ := ⟨_, List.getElem?_eq_getElem (by first | omega | (have h_ := Wd.words_cut (by assumption); omega))⟩
        refine O.l (Lo.callV (vs := []) (caps := [.pointer (some ⟨g10, 0, none⟩), .pointer (some ⟨g9, 0, none⟩)]) (by exact Tryd.call80) rfl rfl (tc_num g10 g9 g8 g3 v2 (Wd.wordsL s) 6 e54 ((false && decide ((Dc.parse e50).2 = 0)) && decide ((Dc.parse e52).2 = 0)) he54 (by omega) (by first | omega | (have h_ := Wd.words_cut (s := s) (by assumption); omega))) [0, 1] [2, 3, 4, 5, 6] (by decide) rfl [var g11 [.int .i64 (((Wd.findR e16 Tc.kinds).1) + 1), .int .i64 ((Dc.parse e14).1), .int .i64 ((Dc.parse e18).1), .int .i64 0, .int .i64 0, .int .i64 0, .int .i64 0] 23, var g10 [.func (.func 79) #[] #[.pointer (some ⟨g8, 0, none⟩), .pointer (some ⟨g3, 0, none⟩)]] 106, var g3 [v2] 32, row v2 9 1 ((Wd.wordsL s).map encS), var g1 [.int .i64 0, .int .i64 0, .int .i64 0, .int .i64 0, .int .i64 0, .int .i64 0, .int .i64 0] 23] rfl (RoOk.ro 0 rfl [0, 1] rfl (RoOk.of 3 rfl same_rd [0, 1] (by decide) rfl (RoOk.of 4 rfl same_rd [0, 1] (by decide) rfl (RoOk.of 5 rfl row_rd [0, 1] (by decide) rfl RoOk.nil))))) rfl ?_
        rintro _ _ ⟨_, ⟨rfl, rfl⟩, rfl⟩
        refine O.p (Pu.move rfl) rfl ?_
        obtain ⟨e56, he56⟩ : ∃ x_, (Wd.wordsL s)[7]? = some x_ := ⟨_, List.getElem?_eq_getElem (by first | omega | (have h_ := Wd.words_cut (by assumption); omega))⟩
        refine O.l (Lo.callV (vs := []) (caps := [.pointer (some ⟨g10, 0, none⟩), .pointer (some ⟨g9, 0, none⟩)]) (by exact Tryd.call80) rfl rfl (tc_num g10 g9 g8 g3 v2 (Wd.wordsL s) 7 e56 (((false && decide ((Dc.parse e50).2 = 0)) && decide ((Dc.parse e52).2 = 0)) && decide ((Dc.parse e54).2 = 0)) he56 (by omega) (by first | omega | (have h_ := Wd.words_cut (s := s) (by assumption); omega))) [0, 1] [2, 3, 4, 5, 6] (by decide) rfl [var g11 [.int .i64 (((Wd.findR e16 Tc.kinds).1) + 1), .int .i64 ((Dc.parse e14).1), .int .i64 ((Dc.parse e18).1), .int .i64 0, .int .i64 0, .int .i64 0, .int .i64 0] 23, var g10 [.func (.func 79) #[] #[.pointer (some ⟨g8, 0, none⟩), .pointer (some ⟨g3, 0, none⟩)]] 106, var g3 [v2] 32, row v2 9 1 ((Wd.wordsL s).map encS), var g1 [.int .i64 0, .int .i64 0, .int .i64 0, .int .i64 0, .int .i64 0, .int .i64 0, .int .i64 0] 23] rfl (RoOk.ro 0 rfl [0, 1] rfl (RoOk.of 3 rfl same_rd [0, 1] (by decide) rfl (RoOk.of 4 rfl same_rd [0, 1] (by decide) rfl (RoOk.of 5 rfl row_rd [0, 1] (by decide) rfl RoOk.nil))))) rfl ?_
        rintro _ _ ⟨_, ⟨rfl, rfl⟩, rfl⟩
        refine O.p (Pu.fieldAddr (off' := 3) Tryd.runUnderlying23 rfl Tryd.sizeOf3 rfl rfl rfl) rfl ?_
        refine O.l0 (Lo.store 2 (vs := [.int .i64 ((Dc.parse e50).1)]) [.int .i64 (((Wd.findR e16 Tc.kinds).1) + 1), .int .i64 ((Dc.parse e14).1), .int .i64 ((Dc.parse e18).1), .int .i64 ((Dc.parse e50).1), .int .i64 0, .int .i64 0, .int .i64 0] rfl rfl rfl (by exact Tryd.sizeOf3) rfl rfl rfl rfl rfl) ?_
        rintro _ _ rfl
        refine O.p (Pu.fieldAddr (off' := 4) Tryd.runUnderlying23 rfl Tryd.sizeOf3 rfl rfl rfl) rfl ?_
        refine O.l0 (Lo.store 2 (vs := [.int .i64 ((Dc.parse e52).1)]) [.int .i64 (((Wd.findR e16 Tc.kinds).1) + 1), .int .i64 ((Dc.parse e14).1), .int .i64 ((Dc.parse e18).1), .int .i64 ((Dc.parse e50).1), .int .i64 ((Dc.parse e52).1), .int .i64 0, .int .i64 0] rfl rfl rfl (by exact Tryd.sizeOf3) rfl rfl rfl rfl rfl) ?_
        rintro _ _ rfl
        refine O.p (Pu.fieldAddr (off' := 5) Tryd.runUnderlying23 rfl Tryd.sizeOf3 rfl rfl rfl) rfl ?_
        refine O.l0 (Lo.store 2 (vs := [.int .i64 ((Dc.parse e54).1)]) [.int .i64 (((Wd.findR e16 Tc.kinds).1) + 1), .int .i64 ((Dc.parse e14).1), .int .i64 ((Dc.parse e18).1), .int .i64 ((Dc.parse e50).1), .int .i64 ((Dc.parse e52).1), .int .i64 ((Dc.parse e54).1), .int .i64 0] rfl rfl rfl (by exact Tryd.sizeOf3) rfl rfl rfl rfl rfl) ?_
        rintro _ _ rfl
        refine O.p (Pu.fieldAddr (off' := 6) Tryd.runUnderlying23 rfl Tryd.sizeOf3 rfl rfl rfl) rfl ?_
        refine O.l0 (Lo.store 2 (vs := [.int .i64 ((Dc.parse e56).1)]) [.int .i64 (((Wd.findR e16 Tc.kinds).1) + 1), .int .i64 ((Dc.parse e14).1), .int .i64 ((Dc.parse e18).1), .int .i64 ((Dc.parse e50).1), .int .i64 ((Dc.parse e52).1), .int .i64 ((Dc.parse e54).1), .int .i64 ((Dc.parse e56).1)] rfl rfl rfl (by exact Tryd.sizeOf3) rfl rfl rfl rfl rfl) ?_
        rintro _ _ rfl
        refine O.nil ?_
        refine J.seq ?_
        refine J.seq ?_
        refine J.region ?_
        refine O.p (Pu.move rfl) rfl ?_
        refine O.p (Pu.not rfl) rfl ?_
        refine O.p (Pu.move rfl) rfl ?_
        refine by_bool (!((Wd.findR e16 Tc.kinds).2)) (fun h58 => ?_) (fun h58 => ?_)
        ·
          have h59 : ((Wd.findR e16 Tc.kinds).2) = false := not_flip h58
          refine O.gskip (t := 67) rfl rfl (no_bool (by rw [h58]; decide)) rfl rfl ?_
          refine O.gskip (t := 67) rfl rfl (no_bool (by rw [h58]; decide)) rfl rfl ?_
          refine O.p (Pu.pickT rfl h58 rfl) rfl ?_
          refine O.nil ?_
          refine J.condT rfl rfl ?_
          refine J.seq ?_
          refine J.region ?_
          refine O.p (Pu.build [] [.int .i64 0, .int .i64 0, .int .i64 0, .int .i64 0, .int .i64 0, .int .i64 0, .int .i64 0] #[(0, 1), (1, 1), (2, 1), (3, 1), (4, 1), (5, 1), (6, 1)] Tryd.runUnderlying23 Tryd.zeroValue23 (places23 Tryd.underlying23) rfl (by kernel_rfl)) rfl ?_
          refine O.l0 (Lo.store 6 (vs := [.int .i64 0, .int .i64 0, .int .i64 0, .int .i64 0, .int .i64 0, .int .i64 0, .int .i64 0]) [.int .i64 0, .int .i64 0, .int .i64 0, .int .i64 0, .int .i64 0, .int .i64 0, .int .i64 0] rfl rfl rfl (by exact Tryd.sizeOf23) rfl rfl rfl rfl rfl) ?_
          rintro _ _ rfl
          refine O.p (Pu.assign rfl) rfl ?_
          refine O.nil ?_
          exact J.ret (Fin.ret (rs := [.cell 2 23, .tmp 3]) rfl [_, _] ⟨⟨_, _, 0, 0, _, rfl, (Cel.var 6 rfl), rfl, (Cut.agg [.int .i64 0, .int .i64 0, .int .i64 0, .int .i64 0, .int .i64 0, .int .i64 0, .int .i64 0] Tryd.isAgg23 Tryd.sizeOf23 rfl rfl)⟩, rfl, trivial⟩ [] (by decide) [] rfl ⟨(by rw [Tc.parse_no (Tc.list8 (by omega) he12 he14 he16 he18 he50 he52 he54 he56) (by refine Bool.eq_false_iff.2 fun hk_ => ?_; simp only [Tc.evOk, Tc.sOk, Tc.atW, Tc.client, Bool.and_eq_true, Bool.or_eq_true, Bool.not_eq_true', decide_eq_true_eq, decide_eq_false_iff_not] at hk_; simp_all)]; rfl), rfl⟩)
        ·
          have h60 : ((Wd.findR e16 Tc.kinds).2) = true := not_flip h58
          refine O.gq (t := 67) rfl rfl h58 rfl (Qt.ld rfl (Cel.var 0 rfl) (o := 0) (off := 0) rfl (Cut.one Tryd.isAgg4 rfl)) rfl ?_
          refine O.gq (t := 67) rfl rfl h58 rfl (Pu.qt (Pu.not rfl)) rfl ?_
          refine O.p (Pu.pickF rfl h58 rfl) rfl ?_
          refine O.nil ?_
          refine J.cond rfl (fun h61 => ?_) (fun h61 => ?_)
          ·
            have h62 : ((((false && decide ((Dc.parse e50).2 = 0)) && decide ((Dc.parse e52).2 = 0)) && decide ((Dc.parse e54).2 = 0)) && decide ((Dc.parse e56).2 = 0)) = false := not_flip h61
            refine J.seq ?_
            refine J.region ?_
            refine O.p (Pu.build [] [.int .i64 0, .int .i64 0, .int .i64 0, .int .i64 0, .int .i64 0, .int .i64 0, .int .i64 0] #[(0, 1), (1, 1), (2, 1), (3, 1), (4, 1), (5, 1), (6, 1)] Tryd.runUnderlying23 Tryd.zeroValue23 (places23 Tryd.underlying23) rfl (by kernel_rfl)) rfl ?_
            refine O.l0 (Lo.store 6 (vs := [.int .i64 0, .int .i64 0, .int .i64 0, .int .i64 0, .int .i64 0, .int .i64 0, .int .i64 0]) [.int .i64 0, .int .i64 0, .int .i64 0, .int .i64 0, .int .i64 0, .int .i64 0, .int .i64 0] rfl rfl rfl (by exact Tryd.sizeOf23) rfl rfl rfl rfl rfl) ?_
            rintro _ _ rfl
            refine O.p (Pu.assign rfl) rfl ?_
            refine O.nil ?_
            exact J.ret (Fin.ret (rs := [.cell 2 23, .tmp 3]) rfl [_, _] ⟨⟨_, _, 0, 0, _, rfl, (Cel.var 6 rfl), rfl, (Cut.agg [.int .i64 0, .int .i64 0, .int .i64 0, .int .i64 0, .int .i64 0, .int .i64 0, .int .i64 0] Tryd.isAgg23 Tryd.sizeOf23 rfl rfl)⟩, rfl, trivial⟩ [] (by decide) [] rfl ⟨(by rw [Tc.parse_no (Tc.list8 (by omega) he12 he14 he16 he18 he50 he52 he54 he56) (by refine Bool.eq_false_iff.2 fun hk_ => ?_; simp only [Tc.evOk, Tc.sOk, Tc.atW, Tc.client, Bool.and_eq_true, Bool.or_eq_true, Bool.not_eq_true', decide_eq_true_eq, decide_eq_false_iff_not] at hk_; simp_all)]; rfl), rfl⟩)
          ·
            have h63 : ((((false && decide ((Dc.parse e50).2 = 0)) && decide ((Dc.parse e52).2 = 0)) && decide ((Dc.parse e54).2 = 0)) && decide ((Dc.parse e56).2 = 0)) = true := not_flip h61
            refine J.skip ?_
            refine J.seq ?_
            refine J.region ?_
            refine O.q (Qt.ld rfl (Cel.var 2 rfl) (o := 0) (off := 0) rfl (Cut.agg [.int .i64 (((Wd.findR e16 Tc.kinds).1) + 1), .int .i64 ((Dc.parse e14).1), .int .i64 ((Dc.parse e18).1), .int .i64 ((Dc.parse e50).1), .int .i64 ((Dc.parse e52).1), .int .i64 ((Dc.parse e54).1), .int .i64 ((Dc.parse e56).1)] Tryd.isAgg23 Tryd.sizeOf23 rfl rfl)) rfl ?_
            refine O.l0 (Lo.store 6 (vs := [.int .i64 (((Wd.findR e16 Tc.kinds).1) + 1), .int .i64 ((Dc.parse e14).1), .int .i64 ((Dc.parse e18).1), .int .i64 ((Dc.parse e50).1), .int .i64 ((Dc.parse e52).1), .int .i64 ((Dc.parse e54).1), .int .i64 ((Dc.parse e56).1)]) [.int .i64 (((Wd.findR e16 Tc.kinds).1) + 1), .int .i64 ((Dc.parse e14).1), .int .i64 ((Dc.parse e18).1), .int .i64 ((Dc.parse e50).1), .int .i64 ((Dc.parse e52).1), .int .i64 ((Dc.parse e54).1), .int .i64 ((Dc.parse e56).1)] rfl rfl rfl (by exact Tryd.sizeOf23) rfl rfl rfl rfl rfl) ?_
            rintro _ _ rfl
            refine O.p (Pu.assign rfl) rfl ?_
            refine O.nil ?_
            exact J.ret (Fin.ret (rs := [.cell 2 23, .tmp 3]) rfl [_, _] ⟨⟨_, _, 0, 0, _, rfl, (Cel.var 6 rfl), rfl, (Cut.agg [.int .i64 (((Wd.findR e16 Tc.kinds).1) + 1), .int .i64 ((Dc.parse e14).1), .int .i64 ((Dc.parse e18).1), .int .i64 ((Dc.parse e50).1), .int .i64 ((Dc.parse e52).1), .int .i64 ((Dc.parse e54).1), .int .i64 ((Dc.parse e56).1)] Tryd.isAgg23 Tryd.sizeOf23 rfl rfl)⟩, rfl, trivial⟩ [] (by decide) [] rfl ⟨(by rw [Tc.parse_go (Tc.list8 (by omega) he12 he14 he16 he18 he50 he52 he54 he56) (Tc.sOf_no (by assumption)) (by simp only [Tc.evOk, Tc.sOk, Tc.atW, Tc.client]; simp_all)]; rfl), rfl⟩)

set_option maxRecDepth 100000 in
set_option maxHeartbeats 4000000 in
theorem r39_Parse (s : List UInt8) (hs : s.length ≤ 80000) : Tri Tryd.prog 17 #[str s] [] [] (fun v L' => v = .tuple #[.agg (Ev.cells (Tc.parse s).1).toArray, .int .i64 (Tc.parse s).2] ∧ L' = []) := by
  refine Tri.enter (args := [str s]) (body := _) 104 Tryd.func17 rfl Tryd.ntmps17 rfl ?_
  intro w0
  refine J.seq ?_
  refine J.region ?_
  refine O.l (Lo.alloc [.int .i64 0, .int .i64 0, .int .i64 0, .int .i64 0, .int .i64 0, .int .i64 0, .int .i64 0] (by exact Tryd.zeroValue23) rfl) rfl ?_
  rintro _ _ ⟨g1, rfl, rfl⟩
  refine O.p (Pu.assign rfl) rfl ?_
  refine O.nil ?_
  refine J.seq ?_
  refine J.region ?_
  refine O.p (Pu.move rfl) rfl ?_
  refine O.l (Lo.call [str s] (by exact Tryd.call83) rfl (r06_Words s (by omega)) [] [0] (by decide) rfl [var g1 [.int .i64 0, .int .i64 0, .int .i64 0, .int .i64 0, .int .i64 0, .int .i64 0, .int .i64 0] 23] rfl RoOk.nil) rfl ?_
  rintro v2 _ ⟨_, rfl, rfl⟩
  refine O.p (Pu.assign rfl) rfl ?_
  refine O.nil ?_
  refine J.seq ?_
  refine J.seq ?_
  refine J.region ?_
  refine O.p (Pu.move rfl) rfl ?_
  refine O.q (Qt.lenM Tryd.runUnderlying32 rfl (Src.row 0 rfl)) rfl ?_
  refine O.p (Pu.neq rfl rfl) rfl ?_
  refine O.nil ?_
  refine J.cond rfl (fun h3 => ?_) (fun h3 => ?_)
  ·
    have p4 := of_decide_eq_true h3
    refine J.seq ?_
    refine J.region ?_
    refine O.p (Pu.build [] [.int .i64 0, .int .i64 0, .int .i64 0, .int .i64 0, .int .i64 0, .int .i64 0, .int .i64 0] #[(0, 1), (1, 1), (2, 1), (3, 1), (4, 1), (5, 1), (6, 1)] Tryd.runUnderlying23 Tryd.zeroValue23 (places23 Tryd.underlying23) rfl (by kernel_rfl)) rfl ?_
    refine O.l0 (Lo.store 1 (vs := [.int .i64 0, .int .i64 0, .int .i64 0, .int .i64 0, .int .i64 0, .int .i64 0, .int .i64 0]) [.int .i64 0, .int .i64 0, .int .i64 0, .int .i64 0, .int .i64 0, .int .i64 0, .int .i64 0] rfl rfl rfl (by exact Tryd.sizeOf23) rfl rfl rfl rfl rfl) ?_
    rintro _ _ rfl
    refine O.p (Pu.assign rfl) rfl ?_
    refine O.nil ?_
    exact J.ret (Fin.ret (rs := [.cell 2 23, .tmp 3]) rfl [_, _] ⟨⟨_, _, 0, 0, _, rfl, (Cel.var 1 rfl), rfl, (Cut.agg [.int .i64 0, .int .i64 0, .int .i64 0, .int .i64 0, .int .i64 0, .int .i64 0, .int .i64 0] Tryd.isAgg23 Tryd.sizeOf23 rfl rfl)⟩, rfl, trivial⟩ [] (by decide) [] rfl ⟨(by rw [Tc.parse_few (by omega)]; rfl), rfl⟩)
  ·
    have p5 := of_decide_eq_false h3
    refine J.skip ?_
    refine J.seq ?_
    refine J.drawMix [(0, false), (1, false), (2, false), (3, true), (4, false), (5, false), (6, false), (7, false), (8, false), (9, false)] [0] [row v2 9 1 ((Wd.wordsL s).map encS)] Tryd.mixed (by kernel_rfl) (by decide) rfl ?_
    refine Mx.p rfl (Pu.move rfl) rfl ?_
    obtain ⟨e6, he6⟩ : ∃ x_, (Wd.wordsL s)[2]? = some x_ := ⟨_, List.getElem?_eq_getElem (by first | omega | (have h_ := Wd.words_cut (by assumption); omega))⟩
    refine Mx.q rfl (Qt.idxM Tryd.runUnderlying32 Tryd.sizeOf9 rfl (Src.row 0 rfl) rfl (by first | omega | (have h_ := Wd.words_cut (by assumption); omega)) (by first | omega | (have h_ := Wd.words_cut (by assumption); omega))) rfl ?_
    refine Mx.q rfl (Qt.ld rfl (Cel.eltM (Src.row 0 rfl) he6) (o := (voff v2 + 2 * 1)) (off := 0) (by omega) (Cut.one Tryd.isAgg9 rfl)) rfl ?_
    refine Mx.l rfl (Lo.call [] (by exact Tryd.call19) rfl r39_Words [] [0, 1] (by decide) rfl [row v2 9 1 ((Wd.wordsL s).map encS), var g1 [.int .i64 0, .int .i64 0, .int .i64 0, .int .i64 0, .int .i64 0, .int .i64 0, .int .i64 0] 23] rfl RoOk.nil) rfl ?_
    rintro v7 _ ⟨_, rfl, rfl⟩
    refine MxK.go [0, 1] [1] [row v7 9 1 (([] :: Tc.kinds).map encS), row v2 9 1 ((Wd.wordsL s).map encS)] (by decide) rfl (by decide) rfl ?_
    refine Mx.call (vs := [str e6, v7]) (caps := []) rfl (by exact Tryd.call66) rfl rfl (r06_Find e6 v7 ([] :: Tc.kinds) (by decide)) (fun _ _ h => h) (RoOk.of 0 rfl row_rd [] (by decide) rfl RoOk.nil) rfl ?_
    refine Mx.p rfl (Pu.move rfl) rfl ?_
    refine Mx.p rfl (Pu.extract rfl rfl) rfl ?_
    refine Mx.p rfl (Pu.extract rfl rfl) rfl ?_
    refine Mx.p rfl (Pu.assign rfl) rfl ?_
    refine Mx.p rfl (Pu.assign rfl) rfl ?_
    refine Mx.nil ?_
    refine J.seq ?_
    refine J.region ?_
    refine O.p (Pu.assign rfl) rfl ?_
    refine O.nil ?_
    refine J.seq ?_
    refine J.seq ?_
    refine J.region ?_
    refine O.p (Pu.move rfl) rfl ?_
    obtain ⟨e8, he8⟩ : ∃ x_, (Wd.wordsL s)[3]? = some x_ := ⟨_, List.getElem?_eq_getElem (by first | omega | (have h_ := Wd.words_cut (by assumption); omega))⟩
    refine O.q (Qt.idxM Tryd.runUnderlying32 Tryd.sizeOf9 rfl (Src.row 1 rfl) rfl (by first | omega | (have h_ := Wd.words_cut (by assumption); omega)) (by first | omega | (have h_ := Wd.words_cut (by assumption); omega))) rfl ?_
    refine O.q (Qt.ld rfl (Cel.eltM (Src.row 1 rfl) he8) (o := (voff v2 + 3 * 1)) (off := 0) (by omega) (Cut.one Tryd.isAgg9 rfl)) rfl ?_
    refine O.p (Pu.sNeq rfl rfl) rfl ?_
    refine O.nil ?_
    refine J.cond rfl (fun h9 => ?_) (fun h9 => ?_)
    ·
      have h10 : (e8 == ([99, 108, 105, 101, 110, 116])) = false := not_flip h9
      refine J.region ?_
      refine O.p (Pu.move rfl) rfl ?_
      refine O.q (Qt.idxM Tryd.runUnderlying32 Tryd.sizeOf9 rfl (Src.row 1 rfl) rfl (by first | omega | (have h_ := Wd.words_cut (by assumption); omega)) (by first | omega | (have h_ := Wd.words_cut (by assumption); omega))) rfl ?_
      refine O.q (Qt.ld rfl (Cel.eltM (Src.row 1 rfl) he8) (o := (voff v2 + 3 * 1)) (off := 0) (by omega) (Cut.one Tryd.isAgg9 rfl)) rfl ?_
      refine O.l (Lo.call [str e8] (by exact Tryd.call84) rfl (r05_Parse e8 (by first | omega | (have h_ := Wd.words_cut (s := s) (by assumption); omega))) [] [0, 1, 2] (by decide) rfl [row v7 9 1 (([] :: Tc.kinds).map encS), row v2 9 1 ((Wd.wordsL s).map encS), var g1 [.int .i64 0, .int .i64 0, .int .i64 0, .int .i64 0, .int .i64 0, .int .i64 0, .int .i64 0] 23] rfl RoOk.nil) rfl ?_
      rintro _ _ ⟨_, ⟨rfl, rfl⟩, rfl⟩
      refine O.p (Pu.move rfl) rfl ?_
      refine O.p (Pu.extract rfl rfl) rfl ?_
      refine O.p (Pu.extract rfl rfl) rfl ?_
      refine O.p (Pu.assign rfl) rfl ?_
      refine O.nil ?_
      refine J.seq ?_
      refine J.region ?_
      refine O.p (Pu.move rfl) rfl ?_
      obtain ⟨e12, he12⟩ : ∃ x_, (Wd.wordsL s)[1]? = some x_ := ⟨_, List.getElem?_eq_getElem (by first | omega | (have h_ := Wd.words_cut (by assumption); omega))⟩
      refine O.q (Qt.idxM Tryd.runUnderlying32 Tryd.sizeOf9 rfl (Src.row 1 rfl) rfl (by first | omega | (have h_ := Wd.words_cut (by assumption); omega)) (by first | omega | (have h_ := Wd.words_cut (by assumption); omega))) rfl ?_
      refine O.q (Qt.ld rfl (Cel.eltM (Src.row 1 rfl) he12) (o := (voff v2 + 1 * 1)) (off := 0) (by omega) (Cut.one Tryd.isAgg9 rfl)) rfl ?_
      refine O.l (Lo.call [str e12] (by exact Tryd.call84) rfl (r05_Parse e12 (by first | omega | (have h_ := Wd.words_cut (s := s) (by assumption); omega))) [] [0, 1, 2] (by decide) rfl [row v7 9 1 (([] :: Tc.kinds).map encS), row v2 9 1 ((Wd.wordsL s).map encS), var g1 [.int .i64 0, .int .i64 0, .int .i64 0, .int .i64 0, .int .i64 0, .int .i64 0, .int .i64 0] 23] rfl RoOk.nil) rfl ?_
      rintro _ _ ⟨_, ⟨rfl, rfl⟩, rfl⟩
      refine O.p (Pu.move rfl) rfl ?_
      refine O.p (Pu.extract rfl rfl) rfl ?_
      refine O.p (Pu.extract rfl rfl) rfl ?_
      refine O.p (Pu.assign rfl) rfl ?_
      refine O.p (Pu.assign rfl) rfl ?_
      refine O.nil ?_
      refine J.seq ?_
      refine J.region ?_
      refine O.p (Pu.move rfl) rfl ?_
      obtain ⟨e14, he14⟩ : ∃ x_, (Wd.wordsL s)[4]? = some x_ := ⟨_, List.getElem?_eq_getElem (by first | omega | (have h_ := Wd.words_cut (by assumption); omega))⟩
      refine O.q (Qt.idxM Tryd.runUnderlying32 Tryd.sizeOf9 rfl (Src.row 1 rfl) rfl (by first | omega | (have h_ := Wd.words_cut (by assumption); omega)) (by first | omega | (have h_ := Wd.words_cut (by assumption); omega))) rfl ?_
      refine O.q (Qt.ld rfl (Cel.eltM (Src.row 1 rfl) he14) (o := (voff v2 + 4 * 1)) (off := 0) (by omega) (Cut.one Tryd.isAgg9 rfl)) rfl ?_
      refine O.l (Lo.call [str e14] (by exact Tryd.call84) rfl (r05_Parse e14 (by first | omega | (have h_ := Wd.words_cut (s := s) (by assumption); omega))) [] [0, 1, 2] (by decide) rfl [row v7 9 1 (([] :: Tc.kinds).map encS), row v2 9 1 ((Wd.wordsL s).map encS), var g1 [.int .i64 0, .int .i64 0, .int .i64 0, .int .i64 0, .int .i64 0, .int .i64 0, .int .i64 0] 23] rfl RoOk.nil) rfl ?_
      rintro _ _ ⟨_, ⟨rfl, rfl⟩, rfl⟩
      refine O.p (Pu.move rfl) rfl ?_
      refine O.p (Pu.extract rfl rfl) rfl ?_
      refine O.p (Pu.extract rfl rfl) rfl ?_
      refine O.p (Pu.assign rfl) rfl ?_
      refine O.p (Pu.assign rfl) rfl ?_
      refine O.nil ?_
      refine J.seq ?_
      refine J.region ?_
      refine O.p (Pu.move rfl) rfl ?_
      obtain ⟨e16, he16⟩ : ∃ x_, (Wd.wordsL s)[5]? = some x_ := ⟨_, List.getElem?_eq_getElem (by first | omega | (have h_ := Wd.words_cut (by assumption); omega))⟩
      refine O.q (Qt.idxM Tryd.runUnderlying32 Tryd.sizeOf9 rfl (Src.row 1 rfl) rfl (by first | omega | (have h_ := Wd.words_cut (by assumption); omega)) (by first | omega | (have h_ := Wd.words_cut (by assumption); omega))) rfl ?_
      refine O.q (Qt.ld rfl (Cel.eltM (Src.row 1 rfl) he16) (o := (voff v2 + 5 * 1)) (off := 0) (by omega) (Cut.one Tryd.isAgg9 rfl)) rfl ?_
      refine O.l (Lo.call [str e16] (by exact Tryd.call84) rfl (r05_Parse e16 (by first | omega | (have h_ := Wd.words_cut (s := s) (by assumption); omega))) [] [0, 1, 2] (by decide) rfl [row v7 9 1 (([] :: Tc.kinds).map encS), row v2 9 1 ((Wd.wordsL s).map encS), var g1 [.int .i64 0, .int .i64 0, .int .i64 0, .int .i64 0, .int .i64 0, .int .i64 0, .int .i64 0] 23] rfl RoOk.nil) rfl ?_
      rintro _ _ ⟨_, ⟨rfl, rfl⟩, rfl⟩
      refine O.p (Pu.move rfl) rfl ?_
      refine O.p (Pu.extract rfl rfl) rfl ?_
      refine O.p (Pu.extract rfl rfl) rfl ?_
      refine O.p (Pu.assign rfl) rfl ?_
      refine O.p (Pu.assign rfl) rfl ?_
      refine O.nil ?_
      refine J.seq ?_
      refine J.region ?_
      refine O.p (Pu.move rfl) rfl ?_
      obtain ⟨e18, he18⟩ : ∃ x_, (Wd.wordsL s)[6]? = some x_ := ⟨_, List.getElem?_eq_getElem (by first | omega | (have h_ := Wd.words_cut (by assumption); omega))⟩
      refine O.q (Qt.idxM Tryd.runUnderlying32 Tryd.sizeOf9 rfl (Src.row 1 rfl) rfl (by first | omega | (have h_ := Wd.words_cut (by assumption); omega)) (by first | omega | (have h_ := Wd.words_cut (by assumption); omega))) rfl ?_
      refine O.q (Qt.ld rfl (Cel.eltM (Src.row 1 rfl) he18) (o := (voff v2 + 6 * 1)) (off := 0) (by omega) (Cut.one Tryd.isAgg9 rfl)) rfl ?_
      refine O.l (Lo.call [str e18] (by exact Tryd.call84) rfl (r05_Parse e18 (by first | omega | (have h_ := Wd.words_cut (s := s) (by assumption); omega))) [] [0, 1, 2] (by decide) rfl [row v7 9 1 (([] :: Tc.kinds).map encS), row v2 9 1 ((Wd.wordsL s).map encS), var g1 [.int .i64 0, .int .i64 0, .int .i64 0, .int .i64 0, .int .i64 0, .int .i64 0, .int .i64 0] 23] rfl RoOk.nil) rfl ?_
      rintro _ _ ⟨_, ⟨rfl, rfl⟩, rfl⟩
      refine O.p (Pu.move rfl) rfl ?_
      refine O.p (Pu.extract rfl rfl) rfl ?_
      refine O.p (Pu.extract rfl rfl) rfl ?_
      refine O.p (Pu.assign rfl) rfl ?_
      refine O.p (Pu.assign rfl) rfl ?_
      refine O.nil ?_
      refine J.seq ?_
      refine J.region ?_
      refine O.p (Pu.move rfl) rfl ?_
      obtain ⟨e20, he20⟩ : ∃ x_, (Wd.wordsL s)[7]? = some x_ := ⟨_, List.getElem?_eq_getElem (by first | omega | (have h_ := Wd.words_cut (by assumption); omega))⟩
      refine O.q (Qt.idxM Tryd.runUnderlying32 Tryd.sizeOf9 rfl (Src.row 1 rfl) rfl (by first | omega | (have h_ := Wd.words_cut (by assumption); omega)) (by first | omega | (have h_ := Wd.words_cut (by assumption); omega))) rfl ?_
      refine O.q (Qt.ld rfl (Cel.eltM (Src.row 1 rfl) he20) (o := (voff v2 + 7 * 1)) (off := 0) (by omega) (Cut.one Tryd.isAgg9 rfl)) rfl ?_
      refine O.l (Lo.call [str e20] (by exact Tryd.call84) rfl (r05_Parse e20 (by first | omega | (have h_ := Wd.words_cut (s := s) (by assumption); omega))) [] [0, 1, 2] (by decide) rfl [row v7 9 1 (([] :: Tc.kinds).map encS), row v2 9 1 ((Wd.wordsL s).map encS), var g1 [.int .i64 0, .int .i64 0, .int .i64 0, .int .i64 0, .int .i64 0, .int .i64 0, .int .i64 0] 23] rfl RoOk.nil) rfl ?_
      rintro _ _ ⟨_, ⟨rfl, rfl⟩, rfl⟩
      refine O.p (Pu.move rfl) rfl ?_
      refine O.p (Pu.extract rfl rfl) rfl ?_
      refine O.p (Pu.extract rfl rfl) rfl ?_
      refine O.p (Pu.assign rfl) rfl ?_
      refine O.p (Pu.assign rfl) rfl ?_
      refine O.nil ?_
      refine J.seq ?_
      refine J.region ?_
      refine O.p (Pu.move rfl) rfl ?_
      refine O.p (Pu.move rfl) rfl ?_
      refine O.p (Pu.move rfl) rfl ?_
      refine O.p (Pu.move rfl) rfl ?_
      refine O.p (Pu.move rfl) rfl ?_
      refine O.p (Pu.move rfl) rfl ?_
      refine O.p (Pu.move rfl) rfl ?_
      refine O.p (Pu.build [(0, .int .i64 ((Wd.findR e6 ([] :: Tc.kinds)).1)), (1, .int .i64 ((Dc.parse e12).1)), (2, .int .i64 ((Dc.parse e8).1)), (3, .int .i64 ((Dc.parse e14).1)), (4, .int .i64 ((Dc.parse e16).1)), (5, .int .i64 ((Dc.parse e18).1)), (6, .int .i64 ((Dc.parse e20).1))] [.int .i64 ((Wd.findR e6 ([] :: Tc.kinds)).1), .int .i64 ((Dc.parse e12).1), .int .i64 ((Dc.parse e8).1), .int .i64 ((Dc.parse e14).1), .int .i64 ((Dc.parse e16).1), .int .i64 ((Dc.parse e18).1), .int .i64 ((Dc.parse e20).1)] #[(0, 1), (1, 1), (2, 1), (3, 1), (4, 1), (5, 1), (6, 1)] Tryd.runUnderlying23 Tryd.zeroValue23 (places23 Tryd.underlying23) rfl (by kernel_rfl)) rfl ?_
      refine O.l (Lo.alloc [.int .i64 0, .int .i64 0, .int .i64 0, .int .i64 0, .int .i64 0, .int .i64 0, .int .i64 0] (by exact Tryd.zeroValue23) rfl) rfl ?_
      rintro _ _ ⟨g22, rfl, rfl⟩
      refine O.l0 (Lo.store 0 (vs := [.int .i64 ((Wd.findR e6 ([] :: Tc.kinds)).1), .int .i64 ((Dc.parse e12).1), .int .i64 ((Dc.parse e8).1), .int .i64 ((Dc.parse e14).1), .int .i64 ((Dc.parse e16).1), .int .i64 ((Dc.parse e18).1), .int .i64 ((Dc.parse e20).1)]) [.int .i64 ((Wd.findR e6 ([] :: Tc.kinds)).1), .int .i64 ((Dc.parse e12).1), .int .i64 ((Dc.parse e8).1), .int .i64 ((Dc.parse e14).1), .int .i64 ((Dc.parse e16).1), .int .i64 ((Dc.parse e18).1), .int .i64 ((Dc.parse e20).1)] rfl rfl rfl (by exact Tryd.sizeOf23) rfl rfl rfl rfl rfl) ?_
      rintro _ _ rfl
      refine O.nil ?_
      refine J.seq ?_
      refine J.seq ?_
      refine J.region ?_
      refine O.q (Qt.ld rfl (Cel.var 0 rfl) (o := 0) (off := 0) rfl (Cut.agg [.int .i64 ((Wd.findR e6 ([] :: Tc.kinds)).1), .int .i64 ((Dc.parse e12).1), .int .i64 ((Dc.parse e8).1), .int .i64 ((Dc.parse e14).1), .int .i64 ((Dc.parse e16).1), .int .i64 ((Dc.parse e18).1), .int .i64 ((Dc.parse e20).1)] Tryd.isAgg23 Tryd.sizeOf23 rfl rfl)) rfl ?_
      refine O.l (Lo.call [.agg #[.int .i64 ((Wd.findR e6 ([] :: Tc.kinds)).1), .int .i64 ((Dc.parse e12).1), .int .i64 ((Dc.parse e8).1), .int .i64 ((Dc.parse e14).1), .int .i64 ((Dc.parse e16).1), .int .i64 ((Dc.parse e18).1), .int .i64 ((Dc.parse e20).1)]] (by exact Tryd.call15) rfl (r39_Line (⟨(Wd.findR e6 ([] :: Tc.kinds)).1, (Dc.parse e12).1, (Dc.parse e8).1, (Dc.parse e14).1, (Dc.parse e16).1, (Dc.parse e18).1, (Dc.parse e20).1⟩ : Ev) (by first | exact ⟨Tc.kind_I _, Tc.parse_I _, Tc.neg1_I, Tc.parse_I _, Tc.parse_I _, Tc.parse_I _, Tc.parse_I _⟩ | exact ⟨Tc.kind_I _, Tc.parse_I _, Tc.parse_I _, Tc.parse_I _, Tc.parse_I _, Tc.parse_I _, Tc.parse_I _⟩)) [] [0, 1, 2, 3] (by decide) rfl [var g22 [.int .i64 ((Wd.findR e6 ([] :: Tc.kinds)).1), .int .i64 ((Dc.parse e12).1), .int .i64 ((Dc.parse e8).1), .int .i64 ((Dc.parse e14).1), .int .i64 ((Dc.parse e16).1), .int .i64 ((Dc.parse e18).1), .int .i64 ((Dc.parse e20).1)] 23, row v7 9 1 (([] :: Tc.kinds).map encS), row v2 9 1 ((Wd.wordsL s).map encS), var g1 [.int .i64 0, .int .i64 0, .int .i64 0, .int .i64 0, .int .i64 0, .int .i64 0, .int .i64 0] 23] rfl RoOk.nil) rfl ?_
      rintro _ _ ⟨_, ⟨rfl, rfl⟩, rfl⟩
      refine O.p (Pu.move rfl) rfl ?_
      refine O.p (Pu.extract rfl rfl) rfl ?_
      refine O.p (Pu.extract rfl rfl) rfl ?_
      refine O.p (Pu.assign rfl) rfl ?_
      refine O.p (Pu.assign rfl) rfl ?_
      refine O.nil ?_
      refine J.seq ?_
      refine J.region ?_
      refine O.p (Pu.move rfl) rfl ?_
      refine O.p (Pu.neq rfl rfl) rfl ?_
      refine O.p (Pu.move rfl) rfl ?_
      refine by_bool (decide (((Tc.line (⟨(Wd.findR e6 ([] :: Tc.kinds)).1, (Dc.parse e12).1, (Dc.parse e8).1, (Dc.parse e14).1, (Dc.parse e16).1, (Dc.parse e18).1, (Dc.parse e20).1⟩ : Ev)).2) ≠ 0)) (fun h24 => ?_) (fun h24 => ?_)
      ·
        have p25 := of_decide_eq_true h24
        refine O.gskip (t := 96) rfl rfl (no_bool (by rw [h24]; decide)) rfl rfl ?_
        refine O.gskip (t := 96) rfl rfl (no_bool (by rw [h24]; decide)) rfl rfl ?_
        refine O.gskip (t := 96) rfl rfl (no_bool (by rw [h24]; decide)) rfl rfl ?_
        refine O.gskip (t := 96) rfl rfl (no_bool (by rw [h24]; decide)) rfl rfl ?_
        refine O.p (Pu.pickT rfl h24 rfl) rfl ?_
        refine O.nil ?_
        refine J.condT rfl rfl ?_
        refine J.seq ?_
        refine J.region ?_
        refine O.p (Pu.build [] [.int .i64 0, .int .i64 0, .int .i64 0, .int .i64 0, .int .i64 0, .int .i64 0, .int .i64 0] #[(0, 1), (1, 1), (2, 1), (3, 1), (4, 1), (5, 1), (6, 1)] Tryd.runUnderlying23 Tryd.zeroValue23 (places23 Tryd.underlying23) rfl (by kernel_rfl)) rfl ?_
        refine O.l0 (Lo.store 3 (vs := [.int .i64 0, .int .i64 0, .int .i64 0, .int .i64 0, .int .i64 0, .int .i64 0, .int .i64 0]) [.int .i64 0, .int .i64 0, .int .i64 0, .int .i64 0, .int .i64 0, .int .i64 0, .int .i64 0] rfl rfl rfl (by exact Tryd.sizeOf23) rfl rfl rfl rfl rfl) ?_
        rintro _ _ rfl
        refine O.p (Pu.assign rfl) rfl ?_
        refine O.nil ?_
        exact J.ret (Fin.ret (rs := [.cell 2 23, .tmp 3]) rfl [_, _] ⟨⟨_, _, 0, 0, _, rfl, (Cel.var 3 rfl), rfl, (Cut.agg [.int .i64 0, .int .i64 0, .int .i64 0, .int .i64 0, .int .i64 0, .int .i64 0, .int .i64 0] Tryd.isAgg23 Tryd.sizeOf23 rfl rfl)⟩, rfl, trivial⟩ [] (by decide) [] rfl ⟨(by have hq_ := Tc.ref_parse (s := s) (by omega); rw [Tc.ref_at (by omega) he12 he6 he8 he14 he16 he18 he20 (Tc.sOf_no (by assumption))] at hq_; first | (rw [hq_.1 (by assumption)]; rfl) | (rw [hq_.2.1 (by assumption)]; rfl)), rfl⟩)
      ·
        have p26 := of_decide_eq_false h24
        refine O.gq (t := 96) rfl rfl h24 rfl (Pu.qt (Pu.move rfl)) rfl ?_
        refine O.gq (t := 96) rfl rfl h24 rfl (Pu.qt (Pu.move rfl)) rfl ?_
        refine O.gl (t := 96) rfl rfl h24 rfl (Lo.call [v2] (by exact Tryd.call75) rfl (r06_Join v2 (Wd.wordsL s) (by omega) (by intro x_ hx_; have h_ := Wd.words_part s x_ hx_; omega)) [] [0, 1, 2, 3] (by decide) rfl [var g22 [.int .i64 ((Wd.findR e6 ([] :: Tc.kinds)).1), .int .i64 ((Dc.parse e12).1), .int .i64 ((Dc.parse e8).1), .int .i64 ((Dc.parse e14).1), .int .i64 ((Dc.parse e16).1), .int .i64 ((Dc.parse e18).1), .int .i64 ((Dc.parse e20).1)] 23, row v7 9 1 (([] :: Tc.kinds).map encS), row v2 9 1 ((Wd.wordsL s).map encS), var g1 [.int .i64 0, .int .i64 0, .int .i64 0, .int .i64 0, .int .i64 0, .int .i64 0, .int .i64 0] 23] rfl (RoOk.of 2 rfl row_rd [] (by decide) rfl RoOk.nil)) rfl ?_
        rintro _ _ ⟨_, ⟨rfl, rfl⟩, rfl⟩
        refine O.gq (t := 96) rfl rfl h24 rfl (Pu.qt (Pu.sNeq rfl rfl)) rfl ?_
        refine O.p (Pu.pickF rfl h24 rfl) rfl ?_
        refine O.nil ?_
        refine J.cond rfl (fun h28 => ?_) (fun h28 => ?_)
        ·
          have h29 : (((Tc.line (⟨(Wd.findR e6 ([] :: Tc.kinds)).1, (Dc.parse e12).1, (Dc.parse e8).1, (Dc.parse e14).1, (Dc.parse e16).1, (Dc.parse e18).1, (Dc.parse e20).1⟩ : Ev)).1) == (Lib.join (Wd.wordsL s) [32])) = false := not_flip h28
          refine J.seq ?_
          refine J.region ?_
          refine O.p (Pu.build [] [.int .i64 0, .int .i64 0, .int .i64 0, .int .i64 0, .int .i64 0, .int .i64 0, .int .i64 0] #[(0, 1), (1, 1), (2, 1), (3, 1), (4, 1), (5, 1), (6, 1)] Tryd.runUnderlying23 Tryd.zeroValue23 (places23 Tryd.underlying23) rfl (by kernel_rfl)) rfl ?_
          refine O.l0 (Lo.store 3 (vs := [.int .i64 0, .int .i64 0, .int .i64 0, .int .i64 0, .int .i64 0, .int .i64 0, .int .i64 0]) [.int .i64 0, .int .i64 0, .int .i64 0, .int .i64 0, .int .i64 0, .int .i64 0, .int .i64 0] rfl rfl rfl (by exact Tryd.sizeOf23) rfl rfl rfl rfl rfl) ?_
          rintro _ _ rfl
          refine O.p (Pu.assign rfl) rfl ?_
          refine O.nil ?_
          exact J.ret (Fin.ret (rs := [.cell 2 23, .tmp 3]) rfl [_, _] ⟨⟨_, _, 0, 0, _, rfl, (Cel.var 3 rfl), rfl, (Cut.agg [.int .i64 0, .int .i64 0, .int .i64 0, .int .i64 0, .int .i64 0, .int .i64 0, .int .i64 0] Tryd.isAgg23 Tryd.sizeOf23 rfl rfl)⟩, rfl, trivial⟩ [] (by decide) [] rfl ⟨(by have hq_ := Tc.ref_parse (s := s) (by omega); rw [Tc.ref_at (by omega) he12 he6 he8 he14 he16 he18 he20 (Tc.sOf_no (by assumption))] at hq_; first | (rw [hq_.1 (by assumption)]; rfl) | (rw [hq_.2.1 (by assumption)]; rfl)), rfl⟩)
        ·
          have h30 : (((Tc.line (⟨(Wd.findR e6 ([] :: Tc.kinds)).1, (Dc.parse e12).1, (Dc.parse e8).1, (Dc.parse e14).1, (Dc.parse e16).1, (Dc.parse e18).1, (Dc.parse e20).1⟩ : Ev)).1) == (Lib.join (Wd.wordsL s) [32])) = true := not_flip h28
          refine J.skip ?_
          refine J.seq ?_
          refine J.region ?_
          refine O.q (Qt.ld rfl (Cel.var 0 rfl) (o := 0) (off := 0) rfl (Cut.agg [.int .i64 ((Wd.findR e6 ([] :: Tc.kinds)).1), .int .i64 ((Dc.parse e12).1), .int .i64 ((Dc.parse e8).1), .int .i64 ((Dc.parse e14).1), .int .i64 ((Dc.parse e16).1), .int .i64 ((Dc.parse e18).1), .int .i64 ((Dc.parse e20).1)] Tryd.isAgg23 Tryd.sizeOf23 rfl rfl)) rfl ?_
          refine O.l0 (Lo.store 3 (vs := [.int .i64 ((Wd.findR e6 ([] :: Tc.kinds)).1), .int .i64 ((Dc.parse e12).1), .int .i64 ((Dc.parse e8).1), .int .i64 ((Dc.parse e14).1), .int .i64 ((Dc.parse e16).1), .int .i64 ((Dc.parse e18).1), .int .i64 ((Dc.parse e20).1)]) [.int .i64 ((Wd.findR e6 ([] :: Tc.kinds)).1), .int .i64 ((Dc.parse e12).1), .int .i64 ((Dc.parse e8).1), .int .i64 ((Dc.parse e14).1), .int .i64 ((Dc.parse e16).1), .int .i64 ((Dc.parse e18).1), .int .i64 ((Dc.parse e20).1)] rfl rfl rfl (by exact Tryd.sizeOf23) rfl rfl rfl rfl rfl) ?_
          rintro _ _ rfl
          refine O.p (Pu.assign rfl) rfl ?_
          refine O.nil ?_
          exact J.ret (Fin.ret (rs := [.cell 2 23, .tmp 3]) rfl [_, _] ⟨⟨_, _, 0, 0, _, rfl, (Cel.var 3 rfl), rfl, (Cut.agg [.int .i64 ((Wd.findR e6 ([] :: Tc.kinds)).1), .int .i64 ((Dc.parse e12).1), .int .i64 ((Dc.parse e8).1), .int .i64 ((Dc.parse e14).1), .int .i64 ((Dc.parse e16).1), .int .i64 ((Dc.parse e18).1), .int .i64 ((Dc.parse e20).1)] Tryd.isAgg23 Tryd.sizeOf23 rfl rfl)⟩, rfl, trivial⟩ [] (by decide) [] rfl ⟨(by have hq_ := Tc.ref_parse (s := s) (by omega); rw [Tc.ref_at (by omega) he12 he6 he8 he14 he16 he18 he20 (Tc.sOf_no (by assumption))] at hq_; rw [hq_.2.2 (by omega) (by assumption)]; rfl), rfl⟩)
    ·
      have h31 : (e8 == ([99, 108, 105, 101, 110, 116])) = true := not_flip h9
      refine J.skip ?_
      refine J.seq ?_
      refine J.region ?_
      refine O.p (Pu.move rfl) rfl ?_
      obtain ⟨e32, he32⟩ : ∃ x_, (Wd.wordsL s)[1]? = some x_ := ⟨_, List.getElem?_eq_getElem (by first | omega | (have h_ := Wd.words_cut (by assumption); omega))⟩
      refine O.q (Qt.idxM Tryd.runUnderlying32 Tryd.sizeOf9 rfl (Src.row 1 rfl) rfl (by first | omega | (have h_ := Wd.words_cut (by assumption); omega)) (by first | omega | (have h_ := Wd.words_cut (by assumption); omega))) rfl ?_
      refine O.q (Qt.ld rfl (Cel.eltM (Src.row 1 rfl) he32) (o := (voff v2 + 1 * 1)) (off := 0) (by omega) (Cut.one Tryd.isAgg9 rfl)) rfl ?_
      refine O.l (Lo.call [str e32] (by exact Tryd.call84) rfl (r05_Parse e32 (by first | omega | (have h_ := Wd.words_cut (s := s) (by assumption); omega))) [] [0, 1, 2] (by decide) rfl [row v7 9 1 (([] :: Tc.kinds).map encS), row v2 9 1 ((Wd.wordsL s).map encS), var g1 [.int .i64 0, .int .i64 0, .int .i64 0, .int .i64 0, .int .i64 0, .int .i64 0, .int .i64 0] 23] rfl RoOk.nil) rfl ?_
      rintro _ _ ⟨_, ⟨rfl, rfl⟩, rfl⟩
      refine O.p (Pu.move rfl) rfl ?_
      refine O.p (Pu.extract rfl rfl) rfl ?_
      refine O.p (Pu.extract rfl rfl) rfl ?_
      refine O.p (Pu.assign rfl) rfl ?_
      refine O.p (Pu.assign rfl) rfl ?_
      refine O.nil ?_
      refine J.seq ?_
      refine J.region ?_
      refine O.p (Pu.move rfl) rfl ?_
      obtain ⟨e34, he34⟩ : ∃ x_, (Wd.wordsL s)[4]? = some x_ := ⟨_, List.getElem?_eq_getElem (by first | omega | (have h_ := Wd.words_cut (by assumption); omega))⟩
      refine O.q (Qt.idxM Tryd.runUnderlying32 Tryd.sizeOf9 rfl (Src.row 1 rfl) rfl (by first | omega | (have h_ := Wd.words_cut (by assumption); omega)) (by first | omega | (have h_ := Wd.words_cut (by assumption); omega))) rfl ?_
      refine O.q (Qt.ld rfl (Cel.eltM (Src.row 1 rfl) he34) (o := (voff v2 + 4 * 1)) (off := 0) (by omega) (Cut.one Tryd.isAgg9 rfl)) rfl ?_
      refine O.l (Lo.call [str e34] (by exact Tryd.call84) rfl (r05_Parse e34 (by first | omega | (have h_ := Wd.words_cut (s := s) (by assumption); omega))) [] [0, 1, 2] (by decide) rfl [row v7 9 1 (([] :: Tc.kinds).map encS), row v2 9 1 ((Wd.wordsL s).map encS), var g1 [.int .i64 0, .int .i64 0, .int .i64 0, .int .i64 0, .int .i64 0, .int .i64 0, .int .i64 0] 23] rfl RoOk.nil) rfl ?_
      rintro _ _ ⟨_, ⟨rfl, rfl⟩, rfl⟩
      refine O.p (Pu.move rfl) rfl ?_
      refine O.p (Pu.extract rfl rfl) rfl ?_
      refine O.p (Pu.extract rfl rfl) rfl ?_
      refine O.p (Pu.assign rfl) rfl ?_
      refine O.p (Pu.assign rfl) rfl ?_
      refine O.nil ?_
      refine J.seq ?_
      refine J.region ?_
      refine O.p (Pu.move rfl) rfl ?_
      obtain ⟨e36, he36⟩ : ∃ x_, (Wd.wordsL s)[5]? = some x_ := ⟨_, List.getElem?_eq_getElem (by first | omega | (have h_ := Wd.words_cut (by assumption); omega))⟩
      refine O.q (Qt.idxM Tryd.runUnderlying32 Tryd.sizeOf9 rfl (Src.row 1 rfl) rfl (by first | omega | (have h_ := Wd.words_cut (by assumption); omega)) (by first | omega | (have h_ := Wd.words_cut (by assumption); omega))) rfl ?_
      refine O.q (Qt.ld rfl (Cel.eltM (Src.row 1 rfl) he36) (o := (voff v2 + 5 * 1)) (off := 0) (by omega) (Cut.one Tryd.isAgg9 rfl)) rfl ?_
      refine O.l (Lo.call [str e36] (by exact Tryd.call84) rfl (r05_Parse e36 (by first | omega | (have h_ := Wd.words_cut (s := s) (by assumption); omega))) [] [0, 1, 2] (by decide) rfl [row v7 9 1 (([] :: Tc.kinds).map encS), row v2 9 1 ((Wd.wordsL s).map encS), var g1 [.int .i64 0, .int .i64 0, .int .i64 0, .int .i64 0, .int .i64 0, .int .i64 0, .int .i64 0] 23] rfl RoOk.nil) rfl ?_
      rintro _ _ ⟨_, ⟨rfl, rfl⟩, rfl⟩
      refine O.p (Pu.move rfl) rfl ?_
      refine O.p (Pu.extract rfl rfl) rfl ?_
      refine O.p (Pu.extract rfl rfl) rfl ?_
      refine O.p (Pu.assign rfl) rfl ?_
      refine O.p (Pu.assign rfl) rfl ?_
      refine O.nil ?_
      refine J.seq ?_
      refine J.region ?_
      refine O.p (Pu.move rfl) rfl ?_
      obtain ⟨e38, he38⟩ : ∃ x_, (Wd.wordsL s)[6]? = some x_ := ⟨_, List.getElem?_eq_getElem (by first | omega | (have h_ := Wd.words_cut (by assumption); omega))⟩
      refine O.q (Qt.idxM Tryd.runUnderlying32 Tryd.sizeOf9 rfl (Src.row 1 rfl) rfl (by first | omega | (have h_ := Wd.words_cut (by assumption); omega)) (by first | omega | (have h_ := Wd.words_cut (by assumption); omega))) rfl ?_
      refine O.q (Qt.ld rfl (Cel.eltM (Src.row 1 rfl) he38) (o := (voff v2 + 6 * 1)) (off := 0) (by omega) (Cut.one Tryd.isAgg9 rfl)) rfl ?_
      refine O.l (Lo.call [str e38] (by exact Tryd.call84) rfl (r05_Parse e38 (by first | omega | (have h_ := Wd.words_cut (s := s) (by assumption); omega))) [] [0, 1, 2] (by decide) rfl [row v7 9 1 (([] :: Tc.kinds).map encS), row v2 9 1 ((Wd.wordsL s).map encS), var g1 [.int .i64 0, .int .i64 0, .int .i64 0, .int .i64 0, .int .i64 0, .int .i64 0, .int .i64 0] 23] rfl RoOk.nil) rfl ?_
      rintro _ _ ⟨_, ⟨rfl, rfl⟩, rfl⟩
      refine O.p (Pu.move rfl) rfl ?_
      refine O.p (Pu.extract rfl rfl) rfl ?_
      refine O.p (Pu.extract rfl rfl) rfl ?_
      refine O.p (Pu.assign rfl) rfl ?_
      refine O.p (Pu.assign rfl) rfl ?_
      refine O.nil ?_
      refine J.seq ?_
      refine J.region ?_
      refine O.p (Pu.move rfl) rfl ?_
      obtain ⟨e40, he40⟩ : ∃ x_, (Wd.wordsL s)[7]? = some x_ := ⟨_, List.getElem?_eq_getElem (by first | omega | (have h_ := Wd.words_cut (by assumption); omega))⟩
      refine O.q (Qt.idxM Tryd.runUnderlying32 Tryd.sizeOf9 rfl (Src.row 1 rfl) rfl (by first | omega | (have h_ := Wd.words_cut (by assumption); omega)) (by first | omega | (have h_ := Wd.words_cut (by assumption); omega))) rfl ?_
      refine O.q (Qt.ld rfl (Cel.eltM (Src.row 1 rfl) he40) (o := (voff v2 + 7 * 1)) (off := 0) (by omega) (Cut.one Tryd.isAgg9 rfl)) rfl ?_
      refine O.l (Lo.call [str e40] (by exact Tryd.call84) rfl (r05_Parse e40 (by first | omega | (have h_ := Wd.words_cut (s := s) (by assumption); omega))) [] [0, 1, 2] (by decide) rfl [row v7 9 1 (([] :: Tc.kinds).map encS), row v2 9 1 ((Wd.wordsL s).map encS), var g1 [.int .i64 0, .int .i64 0, .int .i64 0, .int .i64 0, .int .i64 0, .int .i64 0, .int .i64 0] 23] rfl RoOk.nil) rfl ?_
      rintro _ _ ⟨_, ⟨rfl, rfl⟩, rfl⟩
      refine O.p (Pu.move rfl) rfl ?_
      refine O.p (Pu.extract rfl rfl) rfl ?_
      refine O.p (Pu.extract rfl rfl) rfl ?_
      refine O.p (Pu.assign rfl) rfl ?_
      refine O.p (Pu.assign rfl) rfl ?_
      refine O.nil ?_
      refine J.seq ?_
      refine J.region ?_
      refine O.p (Pu.move rfl) rfl ?_
      refine O.p (Pu.move rfl) rfl ?_
      refine O.p (Pu.move rfl) rfl ?_
      refine O.p (Pu.move rfl) rfl ?_
      refine O.p (Pu.move rfl) rfl ?_
      refine O.p (Pu.move rfl) rfl ?_
      refine O.p (Pu.move rfl) rfl ?_
      refine O.p (Pu.build [(0, .int .i64 ((Wd.findR e6 ([] :: Tc.kinds)).1)), (1, .int .i64 ((Dc.parse e32).1)), (2, .int .i64 (-1)), (3, .int .i64 ((Dc.parse e34).1)), (4, .int .i64 ((Dc.parse e36).1)), (5, .int .i64 ((Dc.parse e38).1)), (6, .int .i64 ((Dc.parse e40).1))] [.int .i64 ((Wd.findR e6 ([] :: Tc.kinds)).1), .int .i64 ((Dc.parse e32).1), .int .i64 (-1), .int .i64 ((Dc.parse e34).1), .int .i64 ((Dc.parse e36).1), .int .i64 ((Dc.parse e38).1), .int .i64 ((Dc.parse e40).1)] #[(0, 1), (1, 1), (2, 1), (3, 1), (4, 1), (5, 1), (6, 1)] Tryd.runUnderlying23 Tryd.zeroValue23 (places23 Tryd.underlying23) rfl (by kernel_rfl)) rfl ?_
      refine O.l (Lo.alloc [.int .i64 0, .int .i64 0, .int .i64 0, .int .i64 0, .int .i64 0, .int .i64 0, .int .i64 0] (by exact Tryd.zeroValue23) rfl) rfl ?_
      rintro _ _ ⟨g42, rfl, rfl⟩
      refine O.l0 (Lo.store 0 (vs := [.int .i64 ((Wd.findR e6 ([] :: Tc.kinds)).1), .int .i64 ((Dc.parse e32).1), .int .i64 (-1), .int .i64 ((Dc.parse e34).1), .int .i64 ((Dc.parse e36).1), .int .i64 ((Dc.parse e38).1), .int .i64 ((Dc.parse e40).1)]) [.int .i64 ((Wd.findR e6 ([] :: Tc.kinds)).1), .int .i64 ((Dc.parse e32).1), .int .i64 (-1), .int .i64 ((Dc.parse e34).1), .int .i64 ((Dc.parse e36).1), .int .i64 ((Dc.parse e38).1), .int .i64 ((Dc.parse e40).1)] rfl rfl rfl (by exact Tryd.sizeOf23) rfl rfl rfl rfl rfl) ?_
      rintro _ _ rfl
      refine O.nil ?_
      refine J.seq ?_
      refine J.seq ?_
      refine J.region ?_
      refine O.q (Qt.ld rfl (Cel.var 0 rfl) (o := 0) (off := 0) rfl (Cut.agg [.int .i64 ((Wd.findR e6 ([] :: Tc.kinds)).1), .int .i64 ((Dc.parse e32).1), .int .i64 (-1), .int .i64 ((Dc.parse e34).1), .int .i64 ((Dc.parse e36).1), .int .i64 ((Dc.parse e38).1), .int .i64 ((Dc.parse e40).1)] Tryd.isAgg23 Tryd.sizeOf23 rfl rfl)) rfl ?_
      refine O.l (Lo.call [.agg #[.int .i64 ((Wd.findR e6 ([] :: Tc.kinds)).1), .int .i64 ((Dc.parse e32).1), .int .i64 (-1), .int .i64 ((Dc.parse e34).1), .int .i64 ((Dc.parse e36).1), .int .i64 ((Dc.parse e38).1), .int .i64 ((Dc.parse e40).1)]] (by exact Tryd.call15) rfl (r39_Line (⟨(Wd.findR e6 ([] :: Tc.kinds)).1, (Dc.parse e32).1, -1, (Dc.parse e34).1, (Dc.parse e36).1, (Dc.parse e38).1, (Dc.parse e40).1⟩ : Ev) (by first | exact ⟨Tc.kind_I _, Tc.parse_I _, Tc.neg1_I, Tc.parse_I _, Tc.parse_I _, Tc.parse_I _, Tc.parse_I _⟩ | exact ⟨Tc.kind_I _, Tc.parse_I _, Tc.parse_I _, Tc.parse_I _, Tc.parse_I _, Tc.parse_I _, Tc.parse_I _⟩)) [] [0, 1, 2, 3] (by decide) rfl [var g42 [.int .i64 ((Wd.findR e6 ([] :: Tc.kinds)).1), .int .i64 ((Dc.parse e32).1), .int .i64 (-1), .int .i64 ((Dc.parse e34).1), .int .i64 ((Dc.parse e36).1), .int .i64 ((Dc.parse e38).1), .int .i64 ((Dc.parse e40).1)] 23, row v7 9 1 (([] :: Tc.kinds).map encS), row v2 9 1 ((Wd.wordsL s).map encS), var g1 [.int .i64 0, .int .i64 0, .int .i64 0, .int .i64 0, .int .i64 0, .int .i64 0, .int .i64 0] 23] rfl RoOk.nil) rfl ?_
      rintro _ _ ⟨_, ⟨rfl, rfl⟩, rfl⟩
      refine O.p (Pu.move rfl) rfl ?_
      refine O.p (Pu.extract rfl rfl) rfl ?_
      refine O.p (Pu.extract rfl rfl) rfl ?_
      refine O.p (Pu.assign rfl) rfl ?_
      refine O.p (Pu.assign rfl) rfl ?_
      refine O.nil ?_
      refine J.seq ?_
      refine J.region ?_
      refine O.p (Pu.move rfl) rfl ?_
      refine O.p (Pu.neq rfl rfl) rfl ?_
      refine O.p (Pu.move rfl) rfl ?_
      refine by_bool (decide (((Tc.line (⟨(Wd.findR e6 ([] :: Tc.kinds)).1, (Dc.parse e32).1, -1, (Dc.parse e34).1, (Dc.parse e36).1, (Dc.parse e38).1, (Dc.parse e40).1⟩ : Ev)).2) ≠ 0)) (fun h44 => ?_) (fun h44 => ?_)
      ·
        have p45 := of_decide_eq_true h44
        refine O.gskip (t := 96) rfl rfl (no_bool (by rw [h44]; decide)) rfl rfl ?_
        refine O.gskip (t := 96) rfl rfl (no_bool (by rw [h44]; decide)) rfl rfl ?_
        refine O.gskip (t := 96) rfl rfl (no_bool (by rw [h44]; decide)) rfl rfl ?_
        refine O.gskip (t := 96) rfl rfl (no_bool (by rw [h44]; decide)) rfl rfl ?_
        refine O.p (Pu.pickT rfl h44 rfl) rfl ?_
        refine O.nil ?_
        refine J.condT rfl rfl ?_
        refine J.seq ?_
        refine J.region ?_
        refine O.p (Pu.build [] [.int .i64 0, .int .i64 0, .int .i64 0, .int .i64 0, .int .i64 0, .int .i64 0, .int .i64 0] #[(0, 1), (1, 1), (2, 1), (3, 1), (4, 1), (5, 1), (6, 1)] Tryd.runUnderlying23 Tryd.zeroValue23 (places23 Tryd.underlying23) rfl (by kernel_rfl)) rfl ?_
        refine O.l0 (Lo.store 3 (vs := [.int .i64 0, .int .i64 0, .int .i64 0, .int .i64 0, .int .i64 0, .int .i64 0, .int .i64 0]) [.int .i64 0, .int .i64 0, .int .i64 0, .int .i64 0, .int .i64 0, .int .i64 0, .int .i64 0] rfl rfl rfl (by exact Tryd.sizeOf23) rfl rfl rfl rfl rfl) ?_
        rintro _ _ rfl
        refine O.p (Pu.assign rfl) rfl ?_
        refine O.nil ?_
        exact J.ret (Fin.ret (rs := [.cell 2 23, .tmp 3]) rfl [_, _] ⟨⟨_, _, 0, 0, _, rfl, (Cel.var 3 rfl), rfl, (Cut.agg [.int .i64 0, .int .i64 0, .int .i64 0, .int .i64 0, .int .i64 0, .int .i64 0, .int .i64 0] Tryd.isAgg23 Tryd.sizeOf23 rfl rfl)⟩, rfl, trivial⟩ [] (by decide) [] rfl ⟨(by have hq_ := Tc.ref_parse (s := s) (by omega); rw [Tc.ref_at (by omega) he32 he6 he8 he34 he36 he38 he40 (Tc.sOf_yes (by assumption))] at hq_; first | (rw [hq_.1 (by assumption)]; rfl) | (rw [hq_.2.1 (by assumption)]; rfl)), rfl⟩)
      ·
        have p46 := of_decide_eq_false h44
        refine O.gq (t := 96) rfl rfl h44 rfl (Pu.qt (Pu.move rfl)) rfl ?_
        refine O.gq (t := 96) rfl rfl h44 rfl (Pu.qt (Pu.move rfl)) rfl ?_
        refine O.gl (t := 96) rfl rfl h44 rfl (Lo.call [v2] (by exact Tryd.call75) rfl (r06_Join v2 (Wd.wordsL s) (by omega) (by intro x_ hx_; have h_ := Wd.words_part s x_ hx_; omega)) [] [0, 1, 2, 3] (by decide) rfl [var g42 [.int .i64 ((Wd.findR e6 ([] :: Tc.kinds)).1), .int .i64 ((Dc.parse e32).1), .int .i64 (-1), .int .i64 ((Dc.parse e34).1), .int .i64 ((Dc.parse e36).1), .int .i64 ((Dc.parse e38).1), .int .i64 ((Dc.parse e40).1)] 23, row v7 9 1 (([] :: Tc.kinds).map encS), row v2 9 1 ((Wd.wordsL s).map encS), var g1 [.int .i64 0, .int .i64 0, .int .i64 0, .int .i64 0, .int .i64 0, .int .i64 0, .int .i64 0] 23] rfl (RoOk.of 2 rfl row_rd [] (by decide) rfl RoOk.nil)) rfl ?_
        rintro _ _ ⟨_, ⟨rfl, rfl⟩, rfl⟩
        refine O.gq (t := 96) rfl rfl h44 rfl (Pu.qt (Pu.sNeq rfl rfl)) rfl ?_
        refine O.p (Pu.pickF rfl h44 rfl) rfl ?_
        refine O.nil ?_
        refine J.cond rfl (fun h48 => ?_) (fun h48 => ?_)
        ·
          have h49 : (((Tc.line (⟨(Wd.findR e6 ([] :: Tc.kinds)).1, (Dc.parse e32).1, -1, (Dc.parse e34).1, (Dc.parse e36).1, (Dc.parse e38).1, (Dc.parse e40).1⟩ : Ev)).1) == (Lib.join (Wd.wordsL s) [32])) = false := not_flip h48
          refine J.seq ?_
          refine J.region ?_
          refine O.p (Pu.build [] [.int .i64 0, .int .i64 0, .int .i64 0, .int .i64 0, .int .i64 0, .int .i64 0, .int .i64 0] #[(0, 1), (1, 1), (2, 1), (3, 1), (4, 1), (5, 1), (6, 1)] Tryd.runUnderlying23 Tryd.zeroValue23 (places23 Tryd.underlying23) rfl (by kernel_rfl)) rfl ?_
          refine O.l0 (Lo.store 3 (vs := [.int .i64 0, .int .i64 0, .int .i64 0, .int .i64 0, .int .i64 0, .int .i64 0, .int .i64 0]) [.int .i64 0, .int .i64 0, .int .i64 0, .int .i64 0, .int .i64 0, .int .i64 0, .int .i64 0] rfl rfl rfl (by exact Tryd.sizeOf23) rfl rfl rfl rfl rfl) ?_
          rintro _ _ rfl
          refine O.p (Pu.assign rfl) rfl ?_
          refine O.nil ?_
          exact J.ret (Fin.ret (rs := [.cell 2 23, .tmp 3]) rfl [_, _] ⟨⟨_, _, 0, 0, _, rfl, (Cel.var 3 rfl), rfl, (Cut.agg [.int .i64 0, .int .i64 0, .int .i64 0, .int .i64 0, .int .i64 0, .int .i64 0, .int .i64 0] Tryd.isAgg23 Tryd.sizeOf23 rfl rfl)⟩, rfl, trivial⟩ [] (by decide) [] rfl ⟨(by have hq_ := Tc.ref_parse (s := s) (by omega); rw [Tc.ref_at (by omega) he32 he6 he8 he34 he36 he38 he40 (Tc.sOf_yes (by assumption))] at hq_; first | (rw [hq_.1 (by assumption)]; rfl) | (rw [hq_.2.1 (by assumption)]; rfl)), rfl⟩)
        ·
          have h50 : (((Tc.line (⟨(Wd.findR e6 ([] :: Tc.kinds)).1, (Dc.parse e32).1, -1, (Dc.parse e34).1, (Dc.parse e36).1, (Dc.parse e38).1, (Dc.parse e40).1⟩ : Ev)).1) == (Lib.join (Wd.wordsL s) [32])) = true := not_flip h48
          refine J.skip ?_
          refine J.seq ?_
          refine J.region ?_
          refine O.q (Qt.ld rfl (Cel.var 0 rfl) (o := 0) (off := 0) rfl (Cut.agg [.int .i64 ((Wd.findR e6 ([] :: Tc.kinds)).1), .int .i64 ((Dc.parse e32).1), .int .i64 (-1), .int .i64 ((Dc.parse e34).1), .int .i64 ((Dc.parse e36).1), .int .i64 ((Dc.parse e38).1), .int .i64 ((Dc.parse e40).1)] Tryd.isAgg23 Tryd.sizeOf23 rfl rfl)) rfl ?_
          refine O.l0 (Lo.store 3 (vs := [.int .i64 ((Wd.findR e6 ([] :: Tc.kinds)).1), .int .i64 ((Dc.parse e32).1), .int .i64 (-1), .int .i64 ((Dc.parse e34).1), .int .i64 ((Dc.parse e36).1), .int .i64 ((Dc.parse e38).1), .int .i64 ((Dc.parse e40).1)]) [.int .i64 ((Wd.findR e6 ([] :: Tc.kinds)).1), .int .i64 ((Dc.parse e32).1), .int .i64 (-1), .int .i64 ((Dc.parse e34).1), .int .i64 ((Dc.parse e36).1), .int .i64 ((Dc.parse e38).1), .int .i64 ((Dc.parse e40).1)] rfl rfl rfl (by exact Tryd.sizeOf23) rfl rfl rfl rfl rfl) ?_
          rintro _ _ rfl
          refine O.p (Pu.assign rfl) rfl ?_
          refine O.nil ?_
          exact J.ret (Fin.ret (rs := [.cell 2 23, .tmp 3]) rfl [_, _] ⟨⟨_, _, 0, 0, _, rfl, (Cel.var 3 rfl), rfl, (Cut.agg [.int .i64 ((Wd.findR e6 ([] :: Tc.kinds)).1), .int .i64 ((Dc.parse e32).1), .int .i64 (-1), .int .i64 ((Dc.parse e34).1), .int .i64 ((Dc.parse e36).1), .int .i64 ((Dc.parse e38).1), .int .i64 ((Dc.parse e40).1)] Tryd.isAgg23 Tryd.sizeOf23 rfl rfl)⟩, rfl, trivial⟩ [] (by decide) [] rfl ⟨(by have hq_ := Tc.ref_parse (s := s) (by omega); rw [Tc.ref_at (by omega) he32 he6 he8 he34 he36 he38 he40 (Tc.sOf_yes (by assumption))] at hq_; rw [hq_.2.2 (by omega) (by assumption)]; rfl), rfl⟩)

end Go.Proofs.YtnfkoohgdcocdaaDoor
