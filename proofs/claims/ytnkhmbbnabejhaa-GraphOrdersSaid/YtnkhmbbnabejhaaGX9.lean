/-
  Walks, printed by a program of mine (lk.py): each function meets its contract.
-/
import Derived.KernelRfl
import Derived.Test.YtnkhmbbnabejhaaGX7
namespace Go.Proofs.Ytnkhmbbnabejhaa
open Go Go.LK
set_option linter.unusedSimpArgs false

set_option maxRecDepth 100000 in
set_option maxHeartbeats 2000000 in
theorem law29_graphOrders (cv : Value) (cs : List Lz) : Tri Try.prog 9 #[cv] [rd cv 1 (cs.map Lz.cells), ros (cs.map Lz.rd)] [] (fun v L' => v = .bool true ∧ L' = []) := by
 refine Tri.enter (args := [cv]) (body := _) 165 Try.func9 rfl Try.ntmps9 rfl ?_
 intro w0
 refine J.seq ?_
 refine J.region ?_
 refine O.p (Pu.assign rfl) rfl ?_
 refine O.nil ?_
 refine J.seq ?_
 refine by_bool (decide (8 < cs.length)) (fun h1 => ?_) (fun h1 => ?_)
 ·
  have p2 := of_decide_eq_true h1
  refine J.region ?_
  refine O.p (Pu.move rfl) rfl ?_
  refine O.l (Lo.call [cv] (by exact Try.call38) rfl (l29_ofNo cv cs (of_decide_eq_true h1)) [] [] (by decide) rfl [] rfl (RoOk.ro 0 rfl [] rfl (RoOk.ro 1 rfl [] rfl RoOk.nil))) rfl ?_
  rintro _ _ ⟨_, ⟨rfl, rfl⟩, rfl⟩
  refine O.p (Pu.move rfl) rfl ?_
  refine O.p (Pu.extract rfl rfl) rfl ?_
  refine O.p (Pu.extract rfl rfl) rfl ?_
  refine O.p (Pu.assign rfl) rfl ?_
  refine O.p (Pu.assign rfl) rfl ?_
  refine O.nil ?_
  refine J.seq ?_
  refine J.seq ?_
  refine J.region ?_
  refine O.p (Pu.move rfl) rfl ?_
  refine O.p (Pu.not rfl) rfl ?_
  refine O.nil ?_
  refine J.condT rfl rfl ?_
  refine J.seq ?_
  refine J.region ?_
  refine O.l (Lo.call [] (by exact Try.call39) rfl l29_awake [] [] (by decide) rfl [] rfl RoOk.nil) rfl ?_
  rintro _ _ ⟨_, ⟨rfl, rfl⟩, rfl⟩
  refine O.p (Pu.assign rfl) rfl ?_
  refine O.nil ?_
  exact J.ret (Fin.ret (rs := [.tmp 2]) rfl [_] ⟨rfl, trivial⟩ [] (by decide) [] rfl ⟨rfl, rfl⟩)
 ·
  have p6 := of_decide_eq_false h1
  refine J.region ?_
  refine O.p (Pu.move rfl) rfl ?_
  refine O.l (Lo.call [cv] (by exact Try.call38) rfl (l29_of cv cs (of_decide_eq_false h1)) [] [] (by decide) rfl [] rfl (RoOk.ro 0 rfl [] rfl (RoOk.ro 1 rfl [] rfl RoOk.nil))) rfl ?_
  rintro _ _ ⟨_, ⟨V7, l7, hg7, rfl, rfl⟩, rfl⟩
  obtain ⟨hk7, hc7⟩ := Gr.of_small hg7 (of_decide_eq_false h1)
  have hl7 : l7.length ≤ 1000 := by omega
  have hgl7 := gOf_len (l := l7)
  refine O.p (Pu.move rfl) rfl ?_
  refine O.p (Pu.extract rfl rfl) rfl ?_
  refine O.p (Pu.extract rfl rfl) rfl ?_
  refine O.p (Pu.assign rfl) rfl ?_
  refine O.p (Pu.assign rfl) rfl ?_
  refine O.nil ?_
  refine J.seq ?_
  refine J.seq ?_
  refine J.region ?_
  refine O.p (Pu.move rfl) rfl ?_
  refine O.p (Pu.not rfl) rfl ?_
  refine O.nil ?_
  refine J.condF rfl rfl ?_
  refine J.skip ?_
  refine J.seq ?_
  refine J.region ?_
  refine O.p (Pu.move rfl) rfl ?_
  refine O.l (Lo.call [V7] (by exact Try.call40) rfl (g_Order V7 l7 hl7 hc7) [] [0, 1] (by decide) rfl [row V7 104 14 (l7.map Sg.cells), bun (l7.map (Sg.row 106))] rfl (RoOk.of 0 rfl row_rd [] (by decide) rfl (RoOk.of 1 rfl sg_ros [] (by decide) rfl RoOk.nil))) rfl ?_
  rintro _ _ ⟨_, ⟨V9, rfl, rfl⟩, rfl⟩
  refine O.p (Pu.move rfl) rfl ?_
  refine O.p (Pu.extract rfl rfl) rfl ?_
  refine O.p (Pu.extract rfl rfl) rfl ?_
  refine O.p (Pu.assign rfl) rfl ?_
  refine O.p (Pu.assign rfl) rfl ?_
  refine O.nil ?_
  refine J.seq ?_
  refine J.seq ?_
  refine J.region ?_
  refine O.p (Pu.move rfl) rfl ?_
  refine O.p (Pu.neq rfl rfl) rfl ?_
  refine O.nil ?_
  refine J.cond rfl (fun h11 => ?_) (fun h11 => ?_)
  ·
   have p12 := of_decide_eq_true h11
   refine J.seq ?_
   refine J.region ?_
   refine O.p (Pu.move rfl) rfl ?_
   refine O.p (Pu.eql rfl rfl) rfl ?_
   refine O.p (Pu.move rfl) rfl ?_
   refine O.gq (t := 32) rfl rfl (decide_eq_true (by exact Gr.loops_11 ‹_›)) rfl (Pu.qt (Pu.move rfl)) rfl ?_
   refine O.gq (t := 32) rfl rfl (decide_eq_true (by exact Gr.loops_11 ‹_›)) rfl (Qt.lenM Try.runUnderlying24 rfl (Src.row 0 rfl)) rfl ?_
   refine O.gq (t := 32) rfl rfl (decide_eq_true (by exact Gr.loops_11 ‹_›)) rfl (Pu.qt (Pu.eql rfl rfl)) rfl ?_
   refine O.p (Pu.pickT rfl (decide_eq_true (by exact Gr.loops_11 ‹_›)) rfl) rfl ?_
   refine O.p (Pu.move rfl) rfl ?_
   refine O.gl (t := 37) rfl rfl (decide_eq_true (by rw [Gr.ordL_no (Gr.loops_none_ord ‹_›)]; rfl)) rfl (Lo.call [] (by exact Try.call39) rfl l29_awake [] [0, 1, 2] (by decide) rfl [row V9 3 1 ((Gr.ordL (gOf l7)).map encZ), row V7 104 14 (l7.map Sg.cells), bun (l7.map (Sg.row 106))] rfl RoOk.nil) rfl ?_
   rintro _ _ ⟨_, ⟨rfl, rfl⟩, rfl⟩
   refine O.p (Pu.pickT rfl (decide_eq_true (by rw [Gr.ordL_no (Gr.loops_none_ord ‹_›)]; rfl)) rfl) rfl ?_
   refine O.p (Pu.assign rfl) rfl ?_
   refine O.nil ?_
   exact J.ret (Fin.ret (rs := [.tmp 2]) rfl [_] ⟨rfl, trivial⟩ [] (by decide) [] rfl ⟨rfl, rfl⟩)
  ·
   have p14 := of_decide_eq_false h11
   refine J.skip ?_
   refine J.seq ?_
   obtain ⟨o, ho⟩ := Gr.loops_ord (g := (gOf l7)) ‹_›
   have hol := Gr.ord_len ho
   have hof := Gr.ordL_full ho
   refine J.region ?_
   refine O.p (Pu.move rfl) rfl ?_
   refine O.q (Qt.lenM Try.runUnderlying70 rfl (Src.row 1 rfl)) rfl ?_
   refine O.l (Lo.makeSliceN (z := (0 : Int)) (f := encZ) (m := l7.length) (s := 1) (bytes := 8) (by exact Try.runUnderlying24) (fun w => run_typeInfo w (by exact (info3).1)) (by exact (info3).2.2.2) (by exact Try.sizeOf3) (by exact Try.zeroValue3) rfl rfl (by omega) (by omega) (by decide) rfl rfl (by decide) rfl) rfl ?_
   rintro V15 _ rfl
   refine O.p (Pu.assign rfl) rfl ?_
   refine O.nil ?_
   refine J.seq ?_
   refine J.seq ?_
   refine J.region ?_
   refine O.p (Pu.assign rfl) rfl ?_
   refine O.nil ?_
   refine J.block ?_
   refine J.loop (X := Nat × List Int) (fun ξ => ξ.1 ≤ l7.length ∧ ξ.2 = Gr.atK (gOf l7) o ξ.1) (fun ξ => [(3, V7), (5, V9), (7, V15), (8, .int .i64 (ξ.1 : Int))]) (fun ξ => [row V15 3 1 (ξ.2.map encZ), row V9 3 1 ((Gr.ordL (gOf l7)).map encZ), row V7 104 14 (l7.map Sg.cells), bun (l7.map (Sg.row 106))]) (fun ξ => l7.length - ξ.1) ⟨0, List.replicate l7.length (0 : Int)⟩ (show 0 ≤ l7.length ∧ (List.replicate l7.length (0 : Int)) = Gr.atK (gOf l7) o 0 from ⟨by omega, by rw [← hgl7]; exact Gr.atK_zero⟩) ⟨rfl, rfl, rfl, (congrArg (fun z => some (Value.int .i64 z)) (by first | rfl | omega : (0 : Int) = (0 : Int))), trivial⟩ [0, 1, 2, 3] (by decide) rfl ?_
   rintro ⟨k, w⟩ hq16
   obtain ⟨hk, hw⟩ : k ≤ l7.length ∧ w = Gr.atK (gOf l7) o k := hq16
   show J _ _ [(3, V7), (5, V9), (7, V15), (8, .int .i64 (k : Int))] [row V15 3 1 (w.map encZ), row V9 3 1 ((Gr.ordL (gOf l7)).map encZ), row V7 104 14 (l7.map Sg.cells), bun (l7.map (Sg.row 106))]
   refine J.seq ?_
   refine J.seq ?_
   refine J.region ?_
   refine O.p (Pu.move rfl) rfl ?_
   refine O.p (Pu.move rfl) rfl ?_
   refine O.q (Qt.lenM Try.runUnderlying24 rfl (Src.row 1 rfl)) rfl ?_
   refine O.p (Pu.lss rfl rfl) rfl ?_
   refine O.nil ?_
   refine J.cond rfl (fun h17 => ?_) (fun h17 => ?_)
   ·
    have p18 := of_decide_eq_true h17
    refine J.skip ?_
    refine J.seq ?_
    refine J.block ?_
    refine J.seq ?_
    refine J.seq ?_
    obtain ⟨e19, he19⟩ : ∃ x_, (Gr.ordL (gOf l7))[k]? = some x_ := ⟨_, List.getElem?_eq_getElem (by omega)⟩
    obtain ⟨p, hpe, hpo, hpl, hkl⟩ := Gr.ordL_at ho he19
    subst hpe
    refine J.region ?_
    refine O.p (Pu.move rfl) rfl ?_
    refine O.p (Pu.move rfl) rfl ?_
    refine O.q (Qt.idxM Try.runUnderlying24 Try.sizeOf3 rfl (Src.row 1 rfl) rfl (by omega) (by omega)) rfl ?_
    refine O.q (Qt.ld rfl (Cel.eltM (Src.row 1 rfl) he19) (o := (voff V9 + k * 1)) (off := 0) (by omega) (Cut.one Try.isAgg3 rfl)) rfl ?_
    refine O.p (Pu.lss rfl rfl) rfl ?_
    refine O.p (Pu.move rfl) rfl ?_
    refine O.gq (t := 54) rfl rfl (decide_eq_false (by omega)) rfl (Pu.qt (Pu.move rfl)) rfl ?_
    refine O.gq (t := 54) rfl rfl (decide_eq_false (by omega)) rfl (Pu.qt (Pu.move rfl)) rfl ?_
    refine O.gq (t := 54) rfl rfl (decide_eq_false (by omega)) rfl (Qt.idxM Try.runUnderlying24 Try.sizeOf3 rfl (Src.row 1 rfl) rfl (by omega) (by omega)) rfl ?_
    refine O.gq (t := 54) rfl rfl (decide_eq_false (by omega)) rfl (Qt.ld rfl (Cel.eltM (Src.row 1 rfl) he19) (o := (voff V9 + k * 1)) (off := 0) (by omega) (Cut.one Try.isAgg3 rfl)) rfl ?_
    refine O.gq (t := 54) rfl rfl (decide_eq_false (by omega)) rfl (Pu.qt (Pu.move rfl)) rfl ?_
    refine O.gq (t := 54) rfl rfl (decide_eq_false (by omega)) rfl (Qt.lenM Try.runUnderlying70 rfl (Src.row 2 rfl)) rfl ?_
    refine O.gq (t := 54) rfl rfl (decide_eq_false (by omega)) rfl (Pu.qt (Pu.geq rfl rfl)) rfl ?_
    refine O.p (Pu.pickF rfl (decide_eq_false (by omega)) rfl) rfl ?_
    refine O.nil ?_
    refine J.condF rfl (decide_eq_false (by omega)) ?_
    refine J.skip ?_
    have hwl : w.length = l7.length := by rw [hw, Gr.atK_len, hgl7]
    obtain ⟨e20, he20⟩ : ∃ x_, w[p]? = some x_ := ⟨_, List.getElem?_eq_getElem (by omega)⟩
    have hx0 := Gr.atK_at ho hpo hw he20
    refine J.drawTail 16 Try.mixed (by kernel_rfl) ?_
    refine S.p (Pu.move rfl) rfl ?_
    refine S.p (Pu.move rfl) rfl ?_
    refine S.p (Pu.move rfl) rfl ?_
    refine S.q (Qt.idxM Try.runUnderlying24 Try.sizeOf3 rfl (Src.row 1 rfl) rfl (by omega) (by omega)) rfl ?_
    refine S.q (Qt.ld rfl (Cel.eltM (Src.row 1 rfl) he19) (o := (voff V9 + k * 1)) (off := 0) (by omega) (Cut.one Try.isAgg3 rfl)) rfl ?_
    refine S.p (Pu.move rfl) rfl ?_
    refine S.p (Pu.move rfl) rfl ?_
    refine S.p (Pu.move rfl) rfl ?_
    refine S.q (Qt.idxM Try.runUnderlying24 Try.sizeOf3 rfl (Src.row 1 rfl) rfl (by omega) (by omega)) rfl ?_
    refine S.q (Qt.ld rfl (Cel.eltM (Src.row 1 rfl) he19) (o := (voff V9 + k * 1)) (off := 0) (by omega) (Cut.one Try.isAgg3 rfl)) rfl ?_
    refine S.q (Qt.idxM Try.runUnderlying24 Try.sizeOf3 rfl (Src.row 0 rfl) rfl (by omega) (by omega)) rfl ?_
    refine S.q (Qt.ld rfl (Cel.eltM (Src.row 0 rfl) he20) (o := (voff V15 + p * 1)) (off := 0) (by omega) (Cut.one Try.isAgg3 rfl)) rfl ?_
    refine S.p (Pu.add' rfl rfl (by omega)) rfl ?_
    refine S.p (Pu.move rfl) rfl ?_
    refine S.p (Pu.add' rfl rfl (by omega)) rfl ?_
    refine S.q (Qt.idxM Try.runUnderlying24 Try.sizeOf3 rfl (Src.row 0 rfl) rfl (by omega) (by omega)) rfl ?_
    refine S.endO ?_
    refine O.l0 (Lo.storeM 0 (j := p) (off := 0) (vs := [.int .i64 ((e20 + 1) + (k : Int))]) (e := [.int .i64 e20]) ((e20 + 1) + (k : Int)) rfl rfl rfl rfl (by omega) he20 rfl (by exact Try.sizeOf3) rfl rfl rfl rfl rfl) ?_
    rintro _ _ rfl
    have hs21 : (w.set p ((e20 + 1) + (k : Int)))[p]? = some ((e20 + 1) + (k : Int)) := List.getElem?_set_self (List.getElem?_eq_some_iff.1 he20).1
    refine O.nil ?_
    refine J.blk ?_
    refine J.region ?_
    refine O.p (Pu.move rfl) rfl ?_
    refine O.p (Pu.add' rfl rfl (by omega)) rfl ?_
    refine O.p (Pu.assign rfl) rfl ?_
    refine O.nil ?_
    exact J.lp ⟨k + 1, w.set p ((e20 + 1) + (k : Int))⟩ (show (k + 1) ≤ l7.length ∧ (w.set p ((e20 + 1) + (k : Int))) = Gr.atK (gOf l7) o (k + 1) from ⟨by omega, Gr.atK_next ho hpo hw he20⟩) (show l7.length - (k + 1) < l7.length - k from (by omega)) ⟨rfl, rfl, rfl, (congrArg (fun z => some (Value.int .i64 z)) (by first | rfl | omega : ((k : Int) + 1 : Int) = ((k + 1) : Int))), trivial⟩ [0, 1, 2, 3] (by decide) rfl
   ·
    have p22 := of_decide_eq_false h17
    refine J.exit _ rfl ?_
    refine J.seq ?_
    refine J.seq ?_
    refine J.region ?_
    refine O.p (Pu.assign rfl) rfl ?_
    refine O.nil ?_
    refine J.block ?_
    refine J.loop (X := Nat) (fun ξ => ξ ≤ l7.length) (fun ξ => [(3, V7), (5, V9), (7, V15), (9, .int .i64 (ξ : Int))]) (fun ξ => [row V15 3 1 (w.map encZ), row V9 3 1 ((Gr.ordL (gOf l7)).map encZ), row V7 104 14 (l7.map Sg.cells), bun (l7.map (Sg.row 106))]) (fun ξ => l7.length - ξ) 0 (show 0 ≤ l7.length from by omega) ⟨rfl, rfl, rfl, (congrArg (fun z => some (Value.int .i64 z)) (by first | rfl | omega : (0 : Int) = (0 : Int))), trivial⟩ [0, 1, 2, 3] (by decide) rfl ?_
    rintro i hq23
    have hi : i ≤ l7.length := hq23
    show J _ _ [(3, V7), (5, V9), (7, V15), (9, .int .i64 (i : Int))] [row V15 3 1 (w.map encZ), row V9 3 1 ((Gr.ordL (gOf l7)).map encZ), row V7 104 14 (l7.map Sg.cells), bun (l7.map (Sg.row 106))]
    refine J.seq ?_
    refine J.seq ?_
    refine J.region ?_
    refine O.p (Pu.move rfl) rfl ?_
    refine O.p (Pu.move rfl) rfl ?_
    refine O.q (Qt.lenM Try.runUnderlying70 rfl (Src.row 2 rfl)) rfl ?_
    refine O.p (Pu.lss rfl rfl) rfl ?_
    refine O.nil ?_
    refine J.cond rfl (fun h24 => ?_) (fun h24 => ?_)
    ·
     have p25 := of_decide_eq_true h24
     refine J.skip ?_
     refine J.seq ?_
     refine J.block ?_
     refine J.seq ?_
     refine J.seq ?_
     have hwl : w.length = l7.length := by rw [hw, Gr.atK_len, hgl7]
     obtain ⟨e26, he26⟩ : ∃ x_, w[i]? = some x_ := ⟨_, List.getElem?_eq_getElem (by omega)⟩
     obtain ⟨a, hxa, hao, hal⟩ := Gr.at_all ho hw (by omega) he26
     subst hxa
     refine J.region ?_
     refine O.p (Pu.move rfl) rfl ?_
     refine O.q (Qt.lenM Try.runUnderlying24 rfl (Src.row 1 rfl)) rfl ?_
     refine O.p (Pu.move rfl) rfl ?_
     refine O.q (Qt.lenM Try.runUnderlying70 rfl (Src.row 2 rfl)) rfl ?_
     refine O.p (Pu.neq rfl rfl) rfl ?_
     refine O.p (Pu.move rfl) rfl ?_
     refine O.gq (t := 90) rfl rfl (decide_eq_false (by omega)) rfl (Pu.qt (Pu.move rfl)) rfl ?_
     refine O.gq (t := 90) rfl rfl (decide_eq_false (by omega)) rfl (Pu.qt (Pu.move rfl)) rfl ?_
     refine O.gq (t := 90) rfl rfl (decide_eq_false (by omega)) rfl (Qt.idxM Try.runUnderlying24 Try.sizeOf3 rfl (Src.row 0 rfl) rfl (by omega) (by omega)) rfl ?_
     refine O.gq (t := 90) rfl rfl (decide_eq_false (by omega)) rfl (Qt.ld rfl (Cel.eltM (Src.row 0 rfl) he26) (o := (voff V15 + i * 1)) (off := 0) (by omega) (Cut.one Try.isAgg3 rfl)) rfl ?_
     refine O.gq (t := 90) rfl rfl (decide_eq_false (by omega)) rfl (Pu.qt (Pu.lss rfl rfl)) rfl ?_
     refine O.p (Pu.pickF rfl (decide_eq_false (by omega)) rfl) rfl ?_
     refine O.p (Pu.move rfl) rfl ?_
     refine O.gq (t := 97) rfl rfl (decide_eq_false (by omega)) rfl (Pu.qt (Pu.move rfl)) rfl ?_
     refine O.gq (t := 97) rfl rfl (decide_eq_false (by omega)) rfl (Pu.qt (Pu.move rfl)) rfl ?_
     refine O.gq (t := 97) rfl rfl (decide_eq_false (by omega)) rfl (Qt.idxM Try.runUnderlying24 Try.sizeOf3 rfl (Src.row 0 rfl) rfl (by omega) (by omega)) rfl ?_
     refine O.gq (t := 97) rfl rfl (decide_eq_false (by omega)) rfl (Qt.ld rfl (Cel.eltM (Src.row 0 rfl) he26) (o := (voff V15 + i * 1)) (off := 0) (by omega) (Cut.one Try.isAgg3 rfl)) rfl ?_
     refine O.gq (t := 97) rfl rfl (decide_eq_false (by omega)) rfl (Pu.qt (Pu.move rfl)) rfl ?_
     refine O.gq (t := 97) rfl rfl (decide_eq_false (by omega)) rfl (Qt.lenM Try.runUnderlying70 rfl (Src.row 2 rfl)) rfl ?_
     refine O.gq (t := 97) rfl rfl (decide_eq_false (by omega)) rfl (Pu.qt (Pu.gtr rfl rfl)) rfl ?_
     refine O.p (Pu.pickF rfl (decide_eq_false (by omega)) rfl) rfl ?_
     refine O.p (Pu.move rfl) rfl ?_
     refine O.gq (t := 106) rfl rfl (decide_eq_false (by omega)) rfl (Pu.qt (Pu.move rfl)) rfl ?_
     refine O.gq (t := 106) rfl rfl (decide_eq_false (by omega)) rfl (Pu.qt (Pu.move rfl)) rfl ?_
     refine O.gq (t := 106) rfl rfl (decide_eq_false (by omega)) rfl (Pu.qt (Pu.move rfl)) rfl ?_
     refine O.gq (t := 106) rfl rfl (decide_eq_false (by omega)) rfl (Qt.idxM Try.runUnderlying24 Try.sizeOf3 rfl (Src.row 0 rfl) rfl (by omega) (by omega)) rfl ?_
     refine O.gq (t := 106) rfl rfl (decide_eq_false (by omega)) rfl (Qt.ld rfl (Cel.eltM (Src.row 0 rfl) he26) (o := (voff V15 + i * 1)) (off := 0) (by omega) (Cut.one Try.isAgg3 rfl)) rfl ?_
     refine O.gq (t := 106) rfl rfl (decide_eq_false (by omega)) rfl (Pu.qt (Pu.sub' rfl rfl (by omega))) rfl ?_
     obtain ⟨e27, he27⟩ : ∃ x_, (Gr.ordL (gOf l7))[(((a : Int) + 1) - 1).toNat]? = some x_ := ⟨_, List.getElem?_eq_getElem (by omega)⟩
     refine O.gq (t := 106) rfl rfl (decide_eq_false (by omega)) rfl (Qt.idxM Try.runUnderlying24 Try.sizeOf3 rfl (Src.row 1 rfl) rfl (by omega) (by omega)) rfl ?_
     refine O.gq (t := 106) rfl rfl (decide_eq_false (by omega)) rfl (Qt.ld rfl (Cel.eltM (Src.row 1 rfl) he27) (o := (voff V9 + ((((a : Int) + 1) - 1).toNat) * 1)) (off := 0) (by omega) (Cut.one Try.isAgg3 rfl)) rfl ?_
     refine O.gq (t := 106) rfl rfl (decide_eq_false (by omega)) rfl (Pu.qt (Pu.move rfl)) rfl ?_
     refine O.gq (t := 106) rfl rfl (decide_eq_false (by omega)) rfl (Pu.qt (Pu.neq rfl rfl)) rfl ?_
     refine O.p (Pu.pickF rfl (decide_eq_false (by omega)) rfl) rfl ?_
     refine O.nil ?_
     refine J.condF rfl (decide_eq_false (by exact not_not_intro (Gr.ordL_is ho hao (by omega) he27))) ?_
     refine J.skip ?_
     refine J.seq ?_
     refine J.region ?_
     refine O.p (Pu.move rfl) rfl ?_
     refine O.p (Pu.move rfl) rfl ?_
     refine O.l (Lo.call [.int .i64 (i : Int), V7] (by exact Try.call42) rfl (g_Depth V7 l7 (i : Int) hl7 hc7) [] [0, 1, 2, 3] (by decide) rfl [row V15 3 1 (w.map encZ), row V9 3 1 ((Gr.ordL (gOf l7)).map encZ), row V7 104 14 (l7.map Sg.cells), bun (l7.map (Sg.row 106))] rfl (RoOk.of 2 rfl row_rd [] (by decide) rfl (RoOk.of 3 rfl sg_ros [] (by decide) rfl RoOk.nil))) rfl ?_
     rintro _ _ ⟨_, ⟨rfl, rfl⟩, rfl⟩
     refine O.p (Pu.move rfl) rfl ?_
     refine O.p (Pu.extract rfl rfl) rfl ?_
     refine O.p (Pu.extract rfl rfl) rfl ?_
     refine O.p (Pu.assign rfl) rfl ?_
     refine O.p (Pu.assign rfl) rfl ?_
     refine O.nil ?_
     refine J.seq ?_
     refine J.region ?_
     refine O.p (Pu.assign rfl) rfl ?_
     refine O.nil ?_
     refine J.block ?_
     refine J.loop (X := Nat) (fun ξ => ξ ≤ l7.length) (fun ξ => [(3, V7), (5, V9), (7, V15), (9, .int .i64 (i : Int)), (10, .int .i64 ((Gr.depI (gOf l7) (i : Int)).1)), (11, .int .i64 ((Gr.depI (gOf l7) (i : Int)).2)), (12, .int .i64 (ξ : Int))]) (fun ξ => [row V15 3 1 (w.map encZ), row V9 3 1 ((Gr.ordL (gOf l7)).map encZ), row V7 104 14 (l7.map Sg.cells), bun (l7.map (Sg.row 106))]) (fun ξ => l7.length - ξ) 0 (show 0 ≤ l7.length from by omega) ⟨rfl, rfl, rfl, rfl, rfl, rfl, (congrArg (fun z => some (Value.int .i64 z)) (by first | rfl | omega : (0 : Int) = (0 : Int))), trivial⟩ [0, 1, 2, 3] (by decide) rfl ?_
     rintro k hq29
     obtain hk2 : k ≤ l7.length := hq29
     show J _ _ [(3, V7), (5, V9), (7, V15), (9, .int .i64 (i : Int)), (10, .int .i64 ((Gr.depI (gOf l7) (i : Int)).1)), (11, .int .i64 ((Gr.depI (gOf l7) (i : Int)).2)), (12, .int .i64 (k : Int))] [row V15 3 1 (w.map encZ), row V9 3 1 ((Gr.ordL (gOf l7)).map encZ), row V7 104 14 (l7.map Sg.cells), bun (l7.map (Sg.row 106))]
     refine J.seq ?_
     refine J.seq ?_
     refine J.region ?_
     refine O.p (Pu.move rfl) rfl ?_
     refine O.p (Pu.move rfl) rfl ?_
     refine O.q (Qt.lenM Try.runUnderlying70 rfl (Src.row 2 rfl)) rfl ?_
     refine O.p (Pu.lss rfl rfl) rfl ?_
     refine O.nil ?_
     refine J.cond rfl (fun h30 => ?_) (fun h30 => ?_)
     ·
      have p31 := of_decide_eq_true h30
      refine J.skip ?_
      refine J.seq ?_
      refine J.block ?_
      refine J.seq ?_
      refine J.region ?_
      refine O.p (Pu.move rfl) rfl ?_
      refine O.p (Pu.move rfl) rfl ?_
      refine O.l (Lo.call [.int .i64 (k : Int), V7] (by exact Try.call42) rfl (g_Depth V7 l7 (k : Int) hl7 hc7) [] [0, 1, 2, 3] (by decide) rfl [row V15 3 1 (w.map encZ), row V9 3 1 ((Gr.ordL (gOf l7)).map encZ), row V7 104 14 (l7.map Sg.cells), bun (l7.map (Sg.row 106))] rfl (RoOk.of 2 rfl row_rd [] (by decide) rfl (RoOk.of 3 rfl sg_ros [] (by decide) rfl RoOk.nil))) rfl ?_
      rintro _ _ ⟨_, ⟨rfl, rfl⟩, rfl⟩
      refine O.p (Pu.move rfl) rfl ?_
      refine O.p (Pu.extract rfl rfl) rfl ?_
      refine O.p (Pu.extract rfl rfl) rfl ?_
      refine O.p (Pu.assign rfl) rfl ?_
      refine O.p (Pu.assign rfl) rfl ?_
      refine O.nil ?_
      refine J.seq ?_
      obtain ⟨e33, he33⟩ : ∃ x_, w[k]? = some x_ := ⟨_, List.getElem?_eq_getElem (by omega)⟩
      refine J.drawHead 28 Try.mixed (by kernel_rfl) ?_
      refine Hd.p (Pu.move rfl) rfl ?_
      refine Hd.p (Pu.move rfl) rfl ?_
      refine Hd.p (Pu.move rfl) rfl ?_
      refine Hd.call (vs := [V7, .int .i64 (i : Int), .int .i64 (k : Int)]) (caps := []) (by exact Try.call50) rfl rfl (r29_Calls V7 l7 (i : Int) (k : Int) hl7 hc7) (fun _ _ h => h) (RoOk.of 2 rfl row_rd [] (by decide) rfl (RoOk.of 3 rfl sg_ros [] (by decide) rfl RoOk.nil)) rfl ?_
      refine Hd.p (Pu.move rfl) rfl ?_
      refine by_bool (Gr.calls (gOf l7) (i : Int) (k : Int)) (fun h34 => ?_) (fun h34 => ?_)
      ·
       refine Hd.gq (t := 140) rfl rfl h34 rfl (Pu.qt (Pu.move rfl)) rfl ?_
       refine Hd.gq (t := 140) rfl rfl h34 rfl (Pu.qt (Pu.move rfl)) rfl ?_
       refine Hd.gq (t := 140) rfl rfl h34 rfl (Qt.idxM Try.runUnderlying24 Try.sizeOf3 rfl (Src.row 0 rfl) rfl (by omega) (by omega)) rfl ?_
       refine Hd.gq (t := 140) rfl rfl h34 rfl (Qt.ld rfl (Cel.eltM (Src.row 0 rfl) he26) (o := (voff V15 + i * 1)) (off := 0) (by omega) (Cut.one Try.isAgg3 rfl)) rfl ?_
       refine Hd.gq (t := 140) rfl rfl h34 rfl (Pu.qt (Pu.move rfl)) rfl ?_
       refine Hd.gq (t := 140) rfl rfl h34 rfl (Pu.qt (Pu.move rfl)) rfl ?_
       refine Hd.gq (t := 140) rfl rfl h34 rfl (Qt.idxM Try.runUnderlying24 Try.sizeOf3 rfl (Src.row 0 rfl) rfl (by omega) (by omega)) rfl ?_
       refine Hd.gq (t := 140) rfl rfl h34 rfl (Qt.ld rfl (Cel.eltM (Src.row 0 rfl) he33) (o := (voff V15 + k * 1)) (off := 0) (by omega) (Cut.one Try.isAgg3 rfl)) rfl ?_
       refine Hd.gq (t := 140) rfl rfl h34 rfl (Pu.qt (Pu.geq rfl rfl)) rfl ?_
       refine Hd.gq (t := 140) rfl rfl h34 rfl (Pu.qt (Pu.move rfl)) rfl ?_
       refine Hd.gq (t := 150) rfl rfl (decide_eq_false (by have h_ := Gr.at_lt ho hw (by omega) (by rw [← Gr.calls_e]; exact h34) he26 he33; omega)) rfl (Pu.qt (Pu.move rfl)) rfl ?_
       refine Hd.gq (t := 150) rfl rfl (decide_eq_false (by have h_ := Gr.at_lt ho hw (by omega) (by rw [← Gr.calls_e]; exact h34) he26 he33; omega)) rfl (Pu.qt (Pu.move rfl)) rfl ?_
       refine Hd.gq (t := 150) rfl rfl (decide_eq_false (by have h_ := Gr.at_lt ho hw (by omega) (by rw [← Gr.calls_e]; exact h34) he26 he33; omega)) rfl (Pu.qt (Pu.geq rfl rfl)) rfl ?_
       refine Hd.gq (t := 140) rfl rfl h34 rfl (Pu.qt (Pu.pickF rfl (decide_eq_false (by have h_ := Gr.at_lt ho hw (by omega) (by rw [← Gr.calls_e]; exact h34) he26 he33; omega)) rfl)) rfl ?_
       refine Hd.gq (t := 140) rfl rfl h34 rfl (Pu.qt (Pu.move rfl)) rfl ?_
       refine Hd.gq (t := 155) rfl rfl (decide_eq_false (by rw [Gr.depI_nat (g := (gOf l7)) (i := i) ‹_› (by omega), Gr.depI_nat (g := (gOf l7)) (i := k) ‹_› (by omega)]; have h_ := Gr.dep_lt (Gr.no_round ho) (by rw [← Gr.calls_e]; exact h34); simp only; omega)) rfl (Pu.qt (Pu.move rfl)) rfl ?_
       refine Hd.gq (t := 155) rfl rfl (decide_eq_false (by rw [Gr.depI_nat (g := (gOf l7)) (i := i) ‹_› (by omega), Gr.depI_nat (g := (gOf l7)) (i := k) ‹_› (by omega)]; have h_ := Gr.dep_lt (Gr.no_round ho) (by rw [← Gr.calls_e]; exact h34); simp only; omega)) rfl (Pu.qt (Pu.neq rfl rfl)) rfl ?_
       refine Hd.gq (t := 140) rfl rfl h34 rfl (Pu.qt (Pu.pickF rfl (decide_eq_false (by rw [Gr.depI_nat (g := (gOf l7)) (i := i) ‹_› (by omega), Gr.depI_nat (g := (gOf l7)) (i := k) ‹_› (by omega)]; have h_ := Gr.dep_lt (Gr.no_round ho) (by rw [← Gr.calls_e]; exact h34); simp only; omega)) rfl)) rfl ?_
       refine Hd.gq (t := 140) rfl rfl h34 rfl (Pu.qt (Pu.move rfl)) rfl ?_
       refine Hd.gq (t := 159) rfl rfl (decide_eq_false (by rw [Gr.depI_nat (g := (gOf l7)) (i := i) ‹_› (by omega)]; simp)) rfl (Pu.qt (Pu.move rfl)) rfl ?_
       refine Hd.gq (t := 159) rfl rfl (decide_eq_false (by rw [Gr.depI_nat (g := (gOf l7)) (i := i) ‹_› (by omega)]; simp)) rfl (Pu.qt (Pu.neq rfl rfl)) rfl ?_
       refine Hd.gq (t := 140) rfl rfl h34 rfl (Pu.qt (Pu.pickF rfl (decide_eq_false (by rw [Gr.depI_nat (g := (gOf l7)) (i := i) ‹_› (by omega)]; simp)) rfl)) rfl ?_
       refine Hd.p (Pu.pickT rfl h34 rfl) rfl ?_
       refine Hd.nil ?_
       refine O.nil ?_
       refine J.condF rfl (decide_eq_false (by rw [Gr.depI_nat (g := (gOf l7)) (i := k) ‹_› (by omega)]; simp)) ?_
       refine J.skip ?_
       refine J.blk ?_
       refine J.region ?_
       refine O.p (Pu.move rfl) rfl ?_
       refine O.p (Pu.add' rfl rfl (by omega)) rfl ?_
       refine O.p (Pu.assign rfl) rfl ?_
       refine O.nil ?_
       exact J.lp (k + 1) (show (k + 1) ≤ l7.length from by omega) (show l7.length - (k + 1) < l7.length - k from (by omega)) ⟨rfl, rfl, rfl, rfl, rfl, rfl, (congrArg (fun z => some (Value.int .i64 z)) (by first | rfl | omega : ((k : Int) + 1 : Int) = ((k + 1) : Int))), trivial⟩ [0, 1, 2, 3] (by decide) rfl
      ·
       refine Hd.gskip (t := 140) rfl rfl (no_bool (by rw [h34]; decide)) rfl rfl ?_
       refine Hd.gskip (t := 140) rfl rfl (no_bool (by rw [h34]; decide)) rfl rfl ?_
       refine Hd.gskip (t := 140) rfl rfl (no_bool (by rw [h34]; decide)) rfl rfl ?_
       refine Hd.gskip (t := 140) rfl rfl (no_bool (by rw [h34]; decide)) rfl rfl ?_
       refine Hd.gskip (t := 140) rfl rfl (no_bool (by rw [h34]; decide)) rfl rfl ?_
       refine Hd.gskip (t := 140) rfl rfl (no_bool (by rw [h34]; decide)) rfl rfl ?_
       refine Hd.gskip (t := 140) rfl rfl (no_bool (by rw [h34]; decide)) rfl rfl ?_
       refine Hd.gskip (t := 140) rfl rfl (no_bool (by rw [h34]; decide)) rfl rfl ?_
       refine Hd.gskip (t := 140) rfl rfl (no_bool (by rw [h34]; decide)) rfl rfl ?_
       refine Hd.gskip (t := 140) rfl rfl (no_bool (by rw [h34]; decide)) rfl rfl ?_
       refine Hd.gskip (t := 150) rfl rfl (no_undef _) rfl rfl ?_
       refine Hd.gskip (t := 150) rfl rfl (no_undef _) rfl rfl ?_
       refine Hd.gskip (t := 150) rfl rfl (no_undef _) rfl rfl ?_
       refine Hd.gskip (t := 140) rfl rfl (no_bool (by rw [h34]; decide)) rfl rfl ?_
       refine Hd.gskip (t := 140) rfl rfl (no_bool (by rw [h34]; decide)) rfl rfl ?_
       refine Hd.gskip (t := 155) rfl rfl (no_undef _) rfl rfl ?_
       refine Hd.gskip (t := 155) rfl rfl (no_undef _) rfl rfl ?_
       refine Hd.gskip (t := 140) rfl rfl (no_bool (by rw [h34]; decide)) rfl rfl ?_
       refine Hd.gskip (t := 140) rfl rfl (no_bool (by rw [h34]; decide)) rfl rfl ?_
       refine Hd.gskip (t := 159) rfl rfl (no_undef _) rfl rfl ?_
       refine Hd.gskip (t := 159) rfl rfl (no_undef _) rfl rfl ?_
       refine Hd.gskip (t := 140) rfl rfl (no_bool (by rw [h34]; decide)) rfl rfl ?_
       refine Hd.p (Pu.pickF rfl h34 rfl) rfl ?_
       refine Hd.nil ?_
       refine O.nil ?_
       refine J.condF rfl rfl ?_
       refine J.skip ?_
       refine J.blk ?_
       refine J.region ?_
       refine O.p (Pu.move rfl) rfl ?_
       refine O.p (Pu.add' rfl rfl (by omega)) rfl ?_
       refine O.p (Pu.assign rfl) rfl ?_
       refine O.nil ?_
       exact J.lp (k + 1) (show (k + 1) ≤ l7.length from by omega) (show l7.length - (k + 1) < l7.length - k from (by omega)) ⟨rfl, rfl, rfl, rfl, rfl, rfl, (congrArg (fun z => some (Value.int .i64 z)) (by first | rfl | omega : ((k : Int) + 1 : Int) = ((k + 1) : Int))), trivial⟩ [0, 1, 2, 3] (by decide) rfl
     ·
      have p35 := of_decide_eq_false h30
      refine J.exit _ rfl ?_
      refine J.blk ?_
      refine J.region ?_
      refine O.p (Pu.move rfl) rfl ?_
      refine O.p (Pu.add' rfl rfl (by omega)) rfl ?_
      refine O.p (Pu.assign rfl) rfl ?_
      refine O.nil ?_
      exact J.lp (i + 1) (show (i + 1) ≤ l7.length from by omega) (show l7.length - (i + 1) < l7.length - i from (by omega)) ⟨rfl, rfl, rfl, (congrArg (fun z => some (Value.int .i64 z)) (by first | rfl | omega : ((i : Int) + 1 : Int) = ((i + 1) : Int))), trivial⟩ [0, 1, 2, 3] (by decide) rfl
    ·
     have p36 := of_decide_eq_false h24
     refine J.exit _ rfl ?_
     refine J.seq ?_
     refine J.region ?_
     refine O.l (Lo.call [] (by exact Try.call39) rfl l29_awake [] [0, 1, 2, 3] (by decide) rfl [row V15 3 1 (w.map encZ), row V9 3 1 ((Gr.ordL (gOf l7)).map encZ), row V7 104 14 (l7.map Sg.cells), bun (l7.map (Sg.row 106))] rfl RoOk.nil) rfl ?_
     rintro _ _ ⟨_, ⟨rfl, rfl⟩, rfl⟩
     refine O.p (Pu.assign rfl) rfl ?_
     refine O.nil ?_
     exact J.ret (Fin.ret (rs := [.tmp 2]) rfl [_] ⟨rfl, trivial⟩ [] (by decide) [] rfl ⟨rfl, rfl⟩)

end Go.Proofs.Ytnkhmbbnabejhaa
