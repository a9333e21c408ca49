/-
  Several texts in one: GX5, GX6.
-/
import Derived.KernelRfl
import Derived.Test.YtnkhmbbnabejhaaGXA
import Derived.Test.YtnkhmbbnabejhaaGraphA
import Derived.Test.YtnkhmbbnabejhaaLk35
namespace Go.Proofs.Ytnkhmbbnabejhaa
open Go Go.LK
set_option linter.unusedSimpArgs false

set_option maxRecDepth 100000 in
theorem r29_Depth (lv : Value) (l : List Sg) (k f : Nat) (hl : l.length ≤ 1000) (hc : ∀ s ∈ l, s.cl.length ≤ 1000) (hac : ∀ i, ¬ Gr.Path (Gr.e (gOf l)) i i) (hk : Gr.dsc (gOf l) f < k) : Tri Try.prog 49 #[lv, .int .i64 (f : Int)] [rd lv 14 (l.map Sg.cells), ros (l.map Sg.rd)] [] (fun v L' => v = .int .i64 (Gr.dep (gOf l) f) ∧ L' = []) := by
  have hgl := gOf_len (l := l)
  induction k generalizing f with
  | zero => exact absurd hk (Nat.not_lt_zero _)
  | succ k ih =>
  refine Tri.enter (args := [lv, .int .i64 (f : Int)]) (body := _) 24 Try.func49 rfl Try.ntmps49 rfl ?_
  intro w0
  refine J.seq ?_
  refine J.region ?_
  refine O.p (Pu.assign rfl) rfl ?_
  refine O.nil ?_
  refine J.seq ?_
  refine J.region ?_
  refine O.p (Pu.assign rfl) rfl ?_
  refine O.nil ?_
  refine J.seq ?_
  refine J.seq ?_
  refine J.region ?_
  refine O.p (Pu.assign rfl) rfl ?_
  refine O.nil ?_
  refine J.block ?_
  refine J.loop (X := Nat × Int) (fun ξ => ξ.1 ≤ l.length ∧ Gr.MaxOf (Gr.dep (gOf l)) (Gr.firstS (gOf l) f ξ.1) ξ.2) (fun ξ => [(0, lv), (1, .int .i64 (f : Int)), (4, .int .i64 0), (5, .int .i64 ξ.2), (6, .int .i64 (ξ.1 : Int))]) (fun ξ => []) (fun ξ => l.length - ξ.1) ⟨0, 0⟩ (show 0 ≤ l.length ∧ Gr.MaxOf (Gr.dep (gOf l)) (Gr.firstS (gOf l) f 0) 0 from ⟨by omega, Gr.MaxOf.nil⟩) ⟨rfl, rfl, rfl, rfl, (congrArg (fun z => some (Value.int .i64 z)) (by first | rfl | omega : (0 : Int) = (0 : Int))), trivial⟩ [] (by decide) rfl ?_
  rintro ⟨j, b⟩ hq1
  obtain ⟨hj, hm⟩ : j ≤ l.length ∧ Gr.MaxOf (Gr.dep (gOf l)) (Gr.firstS (gOf l) f j) b := hq1
  show J _ _ [(0, lv), (1, .int .i64 (f : Int)), (4, .int .i64 0), (5, .int .i64 b), (6, .int .i64 (j : Int))] []
  refine J.seq ?_
  refine J.seq ?_
  refine J.region ?_
  refine O.p (Pu.move rfl) rfl ?_
  refine O.p (Pu.move rfl) rfl ?_
  refine O.q (Qt.lenM Try.runUnderlying70 rfl (Src.ro 0 rfl)) rfl ?_
  refine O.p (Pu.lss rfl rfl) rfl ?_
  refine O.nil ?_
  refine J.cond rfl (fun h2 => ?_) (fun h2 => ?_)
  ·
    have p3 := of_decide_eq_true h2
    refine J.skip ?_
    refine J.seq ?_
    refine J.block ?_
    refine J.seq ?_
    refine J.region ?_
    refine O.p (Pu.move rfl) rfl ?_
    refine O.p (Pu.move rfl) rfl ?_
    refine O.p (Pu.move rfl) rfl ?_
    refine O.l (Lo.call [lv, .int .i64 (f : Int), .int .i64 (j : Int)] (by exact Try.call50) rfl (r29_Calls lv l (f : Int) (j : Int) hl hc) [] [] (by decide) rfl [] rfl (RoOk.ro 0 rfl [] rfl (RoOk.ro 1 rfl [] rfl RoOk.nil))) rfl ?_
    rintro _ _ ⟨_, ⟨rfl, rfl⟩, rfl⟩
    refine O.nil ?_
    refine J.cond rfl (fun h5 => ?_) (fun h5 => ?_)
    ·
      refine J.region ?_
      refine O.p (Pu.move rfl) rfl ?_
      refine O.p (Pu.move rfl) rfl ?_
      refine O.p (Pu.move rfl) rfl ?_
      refine O.l (Lo.call [lv, .int .i64 (j : Int)] (by exact Try.call49) rfl (ih j (by have h_ := Gr.dsc_lt hac (by rw [← Gr.calls_e]; exact h5); omega)) [] [] (by decide) rfl [] rfl (RoOk.ro 0 rfl [] rfl (RoOk.ro 1 rfl [] rfl RoOk.nil))) rfl ?_
      rintro _ _ ⟨_, ⟨rfl, rfl⟩, rfl⟩
      refine O.p (Pu.add' rfl rfl (by first | omega | (have h_ := Gr.dep_le (g := (gOf l)) (n := j); have h2_ := Gr.dep_low (g := (gOf l)) (n := j); omega))) rfl ?_
      refine O.p (Pu.max rfl rfl) rfl ?_
      refine O.p (Pu.assign rfl) rfl ?_
      refine O.nil ?_
      refine J.blk ?_
      refine J.region ?_
      refine O.p (Pu.move rfl) rfl ?_
      refine O.p (Pu.add' rfl rfl (by first | omega | (have h_ := Gr.dep_le (g := (gOf l)) (n := j); have h2_ := Gr.dep_low (g := (gOf l)) (n := j); omega))) rfl ?_
      refine O.p (Pu.assign rfl) rfl ?_
      refine O.nil ?_
      exact J.lp ⟨j + 1, if (1 + (Gr.dep (gOf l) j)) > b then (1 + (Gr.dep (gOf l) j)) else b⟩ (show (j + 1) ≤ l.length ∧ Gr.MaxOf (Gr.dep (gOf l)) (Gr.firstS (gOf l) f (j + 1)) (if (1 + (Gr.dep (gOf l) j)) > b then (1 + (Gr.dep (gOf l) j)) else b) from ⟨by omega, (Gr.first_yes hm (by rw [← Gr.calls_e]; exact h5))⟩) (show l.length - (j + 1) < l.length - j from (by omega)) ⟨rfl, rfl, rfl, rfl, (congrArg (fun z => some (Value.int .i64 z)) (by first | rfl | omega : ((j : Int) + 1 : Int) = ((j + 1) : Int))), trivial⟩ [] (by decide) rfl
    ·
      refine J.skip ?_
      refine J.blk ?_
      refine J.region ?_
      refine O.p (Pu.move rfl) rfl ?_
      refine O.p (Pu.add' rfl rfl (by first | omega | (have h_ := Gr.dep_le (g := (gOf l)) (n := j); have h2_ := Gr.dep_low (g := (gOf l)) (n := j); omega))) rfl ?_
      refine O.p (Pu.assign rfl) rfl ?_
      refine O.nil ?_
      exact J.lp ⟨j + 1, b⟩ (show (j + 1) ≤ l.length ∧ Gr.MaxOf (Gr.dep (gOf l)) (Gr.firstS (gOf l) f (j + 1)) b from ⟨by omega, (Gr.first_no hm (by rw [← Gr.calls_e]; exact h5))⟩) (show l.length - (j + 1) < l.length - j from (by omega)) ⟨rfl, rfl, rfl, rfl, (congrArg (fun z => some (Value.int .i64 z)) (by first | rfl | omega : ((j : Int) + 1 : Int) = ((j + 1) : Int))), trivial⟩ [] (by decide) rfl
  ·
    have p7 := of_decide_eq_false h2
    refine J.exit _ rfl ?_
    refine J.seq ?_
    refine J.region ?_
    refine O.p (Pu.move rfl) rfl ?_
    refine O.p (Pu.assign rfl) rfl ?_
    refine O.nil ?_
    exact J.ret (Fin.ret (rs := [.tmp 4]) rfl [_] ⟨rfl, trivial⟩ [] (by decide) [] rfl ⟨(by simp only [vOf]; congr 1; exact Gr.first_all hac ((show j = (gOf l).length from by omega) ▸ hm)), rfl⟩)

set_option maxRecDepth 100000 in
theorem g_Visit (lv : Value) (l : List Sg) (gl gm gv b k : Nat) (n : Int) (m : List (Int × Int)) (hl : l.length ≤ 1000) (hc : ∀ s ∈ l, s.cl.length ≤ 1000) (ho : Gr.Ones m) (hk : Gr.un (gOf l) m < k) : Tri Try.prog 69 #[.int .i64 n, .pointer (some ⟨gl, 0, none⟩), .pointer (some ⟨gm, 0, none⟩), .pointer (some ⟨gv, 0, none⟩)] [rd lv 14 (l.map Sg.cells), ros (l.map Sg.rd), var gl [lv] 70, var gm [.map (some b)] 59, var gv [.func (.func 69) #[] #[.pointer (some ⟨gl, 0, none⟩), .pointer (some ⟨gm, 0, none⟩), .pointer (some ⟨gv, 0, none⟩)]] 112] [mi b (Value.int .i64) m] (fun v L' => ∃ m', v = .tuple #[] ∧ Gr.Dfs (gOf l) n m m' (Gr.called (gOf l) n).length ∧ L' = [mi b (Value.int .i64) m']) := by
  have hgl := gOf_len (l := l)
  induction k generalizing n m with
  | zero => exact absurd hk (Nat.not_lt_zero _)
  | succ k ih =>
  refine Tri.enter (args := [.int .i64 n, .pointer (some ⟨gl, 0, none⟩), .pointer (some ⟨gm, 0, none⟩), .pointer (some ⟨gv, 0, none⟩)]) (body := _) 25 Try.func69 rfl Try.ntmps69 rfl ?_
  intro w0
  refine J.seq ?_
  refine J.region ?_
  refine O.q (Qt.ld rfl (Cel.roVar 2 rfl) (o := 0) (off := 0) rfl (Cut.one Try.isAgg70 rfl)) rfl ?_
  refine O.p (Pu.move rfl) rfl ?_
  refine O.l (Lo.call [lv, .int .i64 n] (by exact Try.call64) rfl (g_called lv l n hl hc) [] [0] (by decide) rfl [mi b (Value.int .i64) m] rfl (RoOk.ro 0 rfl [] rfl (RoOk.ro 1 rfl [] rfl RoOk.nil))) rfl ?_
  rintro v1 _ ⟨_, rfl, rfl⟩
  refine O.q (Qt.lenM Try.runUnderlying24 rfl (Src.row 0 rfl)) rfl ?_
  refine O.p (Pu.move rfl) rfl ?_
  refine O.nil ?_
  refine J.block ?_
  refine J.loop (X := Nat × (List (Int × Int))) (fun ξ => ξ.1 ≤ (Gr.called (gOf l) n).length ∧ Gr.Dfs (gOf l) n m ξ.2 ξ.1) (fun ξ => [(2, .pointer (some ⟨gm, 0, none⟩)), (3, .pointer (some ⟨gv, 0, none⟩)), (9, v1), (10, .int .i64 ((Gr.called (gOf l) n).length : Int)), (11, .int .i64 (ξ.1 : Int))]) (fun ξ => [mi b (Value.int .i64) ξ.2, row v1 3 1 ((Gr.called (gOf l) n).map encZ)]) (fun ξ => (Gr.called (gOf l) n).length - ξ.1) ⟨0, m⟩ (show 0 ≤ (Gr.called (gOf l) n).length ∧ Gr.Dfs (gOf l) n m m 0 from ⟨by omega, Gr.Dfs.begin ho⟩) ⟨rfl, rfl, rfl, rfl, (congrArg (fun z => some (Value.int .i64 z)) (by first | rfl | omega : (0 : Int) = (0 : Int))), trivial⟩ [1, 0] (by decide) rfl ?_
  rintro ⟨q, m1⟩ hq2
  obtain ⟨hq, hm⟩ : q ≤ (Gr.called (gOf l) n).length ∧ Gr.Dfs (gOf l) n m m1 q := hq2
  show J _ _ [(2, .pointer (some ⟨gm, 0, none⟩)), (3, .pointer (some ⟨gv, 0, none⟩)), (9, v1), (10, .int .i64 ((Gr.called (gOf l) n).length : Int)), (11, .int .i64 (q : Int))] [mi b (Value.int .i64) m1, row v1 3 1 ((Gr.called (gOf l) n).map encZ)]
  refine J.seq ?_
  refine J.region ?_
  refine O.p (Pu.lss rfl rfl) rfl ?_
  refine O.nil ?_
  refine J.seq ?_
  refine J.cond rfl (fun h3 => ?_) (fun h3 => ?_)
  ·
    have p4 := of_decide_eq_true h3
    refine J.skip ?_
    refine J.seq ?_
    refine J.block ?_
    refine J.seq ?_
    refine J.region ?_
    obtain ⟨e5, he5⟩ : ∃ x_, (Gr.called (gOf l) n)[q]? = some x_ := ⟨_, List.getElem?_eq_getElem (by omega)⟩
    refine O.q (Qt.idxM Try.runUnderlying24 Try.sizeOf3 rfl (Src.row 1 rfl) rfl (by omega) (by omega)) rfl ?_
    refine O.q (Qt.ld rfl (Cel.eltM (Src.row 1 rfl) he5) (o := (voff v1 + q * 1)) (off := 0) (by omega) (Cut.one Try.isAgg3 rfl)) rfl ?_
    refine O.p (Pu.assign rfl) rfl ?_
    refine O.nil ?_
    refine J.seq ?_
    refine J.region ?_
    refine O.q (Qt.ld rfl (Cel.roVar 3 rfl) (o := 0) (off := 0) rfl (Cut.one Try.isAgg59 rfl)) rfl ?_
    refine O.p (Pu.move rfl) rfl ?_
    refine O.q (Qt.lkI (V := .int .i64 ((getI m1 e5).getD 0)) Try.underlying59 Try.underlying3 Try.zeroValue3 rfl rfl (Mc.own 0 b rfl rfl) (by cases (getI m1 e5) <;> rfl)) rfl ?_
    refine O.p (Pu.eql rfl rfl) rfl ?_
    refine O.nil ?_
    refine J.cond rfl (fun h6 => ?_) (fun h6 => ?_)
    ·
      have p7 := of_decide_eq_true h6
      refine J.seq ?_
      refine J.region ?_
      refine O.q (Qt.ld rfl (Cel.roVar 3 rfl) (o := 0) (off := 0) rfl (Cut.one Try.isAgg59 rfl)) rfl ?_
      refine O.p (Pu.move rfl) rfl ?_
      refine O.l0 (Lo.mapPut (u := 1) 0 (by exact Try.underlying59) (by exact Try.underlying3) rfl rfl rfl rfl) ?_
      rintro _ _ rfl
      refine O.nil ?_
      refine J.region ?_
      refine O.q (Qt.ld rfl (Cel.roVar 4 rfl) (o := 0) (off := 0) rfl (Cut.one Try.isAgg112 rfl)) rfl ?_
      refine O.p (Pu.move rfl) rfl ?_
      refine O.l (Lo.callV (vs := [.int .i64 e5]) (caps := [.pointer (some ⟨gl, 0, none⟩), .pointer (some ⟨gm, 0, none⟩), .pointer (some ⟨gv, 0, none⟩)]) (by exact Try.call69) rfl rfl (ih e5 (putI m1 e5 1) hm.ones.put (by have h_ := Gr.un_lt he5 (hm.ones.zero.1 (by assumption)) hm.sub; omega)) [0] [1] (by decide) rfl [row v1 3 1 ((Gr.called (gOf l) n).map encZ)] rfl (RoOk.ro 0 rfl [0] rfl (RoOk.ro 1 rfl [0] rfl (RoOk.ro 2 rfl [0] rfl (RoOk.ro 3 rfl [0] rfl (RoOk.ro 4 rfl [0] rfl RoOk.nil)))))) rfl ?_
      rintro _ _ ⟨_, ⟨mm8, rfl, hd9, rfl⟩, rfl⟩
      have hnx : Gr.Dfs (gOf l) n m mm8 (q + 1) := hm.visit he5 (hm.ones.zero.1 (by assumption)) hd9
      refine O.nil ?_
      refine J.blk ?_
      refine J.region ?_
      refine O.p (Pu.add' rfl rfl (by have h_ := Gr.called_len (g := (gOf l)) (f := n); omega)) rfl ?_
      refine O.p (Pu.move rfl) rfl ?_
      refine O.nil ?_
      exact J.lp ⟨q + 1, mm8⟩ (show (q + 1) ≤ (Gr.called (gOf l) n).length ∧ Gr.Dfs (gOf l) n m mm8 (q + 1) from ⟨by omega, hnx⟩) (show (Gr.called (gOf l) n).length - (q + 1) < (Gr.called (gOf l) n).length - q from (by omega)) ⟨rfl, rfl, rfl, rfl, (congrArg (fun z => some (Value.int .i64 z)) (by first | rfl | omega : ((q : Int) + 1 : Int) = ((q + 1) : Int))), trivial⟩ [0, 1] (by decide) rfl
    ·
      have p11 := of_decide_eq_false h6
      refine J.skip ?_
      refine J.blk ?_
      refine J.region ?_
      refine O.p (Pu.add' rfl rfl (by have h_ := Gr.called_len (g := (gOf l)) (f := n); omega)) rfl ?_
      refine O.p (Pu.move rfl) rfl ?_
      refine O.nil ?_
      exact J.lp ⟨q + 1, m1⟩ (show (q + 1) ≤ (Gr.called (gOf l) n).length ∧ Gr.Dfs (gOf l) n m m1 (q + 1) from ⟨by omega, hm.skip he5 (Classical.byContradiction fun h_ => absurd (hm.ones.zero.2 h_) (by assumption))⟩) (show (Gr.called (gOf l) n).length - (q + 1) < (Gr.called (gOf l) n).length - q from (by omega)) ⟨rfl, rfl, rfl, rfl, (congrArg (fun z => some (Value.int .i64 z)) (by first | rfl | omega : ((q : Int) + 1 : Int) = ((q + 1) : Int))), trivial⟩ [0, 1] (by decide) rfl
  ·
    have p12 := of_decide_eq_false h3
    refine J.exit _ rfl ?_
    exact J.done (Fin.ret (rs := []) rfl [] trivial [0] (by decide) [mi b (Value.int .i64) m1] rfl ⟨m1, rfl, ((show q = (Gr.called (gOf l) n).length from by omega) ▸ hm), rfl⟩)

set_option maxRecDepth 100000 in
theorem g_Reach (lv : Value) (l : List Sg) (n : Int) (hl : l.length ≤ 1000) (hc : ∀ s ∈ l, s.cl.length ≤ 1000) : Tri Try.prog 47 #[.int .i64 n, lv] [rd lv 14 (l.map Sg.cells), ros (l.map Sg.rd)] [] (fun v L' => L' = [row v 3 1 ((Gr.reachI (gOf l) n).map encZ)]) := by
  have hgl := gOf_len (l := l)
  refine Tri.enter (args := [.int .i64 n, lv]) (body := _) 15 Try.func47 rfl Try.ntmps47 rfl ?_
  intro w0
  refine J.seq ?_
  refine J.region ?_
  refine O.one (Src.ro 0 rfl) (fun hV2 => ?_)
  refine O.l (Lo.box [lv] rfl (one_cells hV2)) rfl ?_
  rintro _ _ ⟨g1, rfl, rfl⟩
  refine O.p (Pu.assign rfl) rfl ?_
  refine O.nil ?_
  refine J.seq ?_
  refine J.region ?_
  refine O.l (Lo.makeMapI (Value.int .i64)) rfl ?_
  rintro _ _ ⟨b3, rfl, rfl⟩
  refine O.l (Lo.alloc [Value.map none] (by exact Try.zeroValue59) rfl) rfl ?_
  rintro _ _ ⟨g4, rfl, rfl⟩
  refine O.l0 (Lo.store 0 (vs := [.map (some b3)]) [.map (some b3)] rfl rfl rfl (by exact Try.sizeOf59) rfl rfl rfl rfl rfl) ?_
  rintro _ _ rfl
  refine O.nil ?_
  refine J.seq ?_
  refine J.region ?_
  refine O.l (Lo.alloc [Value.nilFunc] (by exact Try.zeroValue112) rfl) rfl ?_
  rintro _ _ ⟨g5, rfl, rfl⟩
  refine O.nil ?_
  refine J.seq ?_
  refine J.region ?_
  refine O.p (Pu.makeFunc [.pointer (some ⟨g1, 0, none⟩), .pointer (some ⟨g4, 0, none⟩), .pointer (some ⟨g5, 0, none⟩)] rfl) rfl ?_
  refine O.l0 (Lo.store 0 (vs := [.func (.func 69) #[] #[.pointer (some ⟨g1, 0, none⟩), .pointer (some ⟨g4, 0, none⟩), .pointer (some ⟨g5, 0, none⟩)]]) [.func (.func 69) #[] #[.pointer (some ⟨g1, 0, none⟩), .pointer (some ⟨g4, 0, none⟩), .pointer (some ⟨g5, 0, none⟩)]] rfl rfl rfl (by exact Try.sizeOf112) rfl rfl rfl rfl rfl) ?_
  rintro _ _ rfl
  refine O.nil ?_
  refine J.seq ?_
  refine J.region ?_
  refine O.q (Qt.ld rfl (Cel.var 0 rfl) (o := 0) (off := 0) rfl (Cut.one Try.isAgg112 rfl)) rfl ?_
  refine O.p (Pu.move rfl) rfl ?_
  refine O.l (Lo.callV (vs := [.int .i64 n]) (caps := [.pointer (some ⟨g1, 0, none⟩), .pointer (some ⟨g4, 0, none⟩), .pointer (some ⟨g5, 0, none⟩)]) (by exact Try.call69) rfl rfl (g_Visit lv l g1 g4 g5 b3 (Gr.un (gOf l) [] + 1) n [] hl hc (fun k v hv => by cases hv) (Nat.lt_succ_self _)) [2] [0, 1, 3] (by decide) rfl [var g5 [.func (.func 69) #[] #[.pointer (some ⟨g1, 0, none⟩), .pointer (some ⟨g4, 0, none⟩), .pointer (some ⟨g5, 0, none⟩)]] 112, var g4 [.map (some b3)] 59, var g1 [lv] 70] rfl (RoOk.ro 0 rfl [2] rfl (RoOk.ro 1 rfl [2] rfl (RoOk.of 3 rfl same_rd [2] (by decide) rfl (RoOk.of 1 rfl same_rd [2] (by decide) rfl (RoOk.of 0 rfl same_rd [2] (by decide) rfl RoOk.nil)))))) rfl ?_
  rintro _ _ ⟨_, ⟨mm, rfl, hd, rfl⟩, rfl⟩
  refine O.nil ?_
  refine J.seq ?_
  refine J.know 0 rfl mi_nodup (fun hnd => ?_)
  have hml := Gr.dfs_len hd hnd
  refine J.region ?_
  refine O.q (Qt.ld rfl (Cel.var 2 rfl) (o := 0) (off := 0) rfl (Cut.one Try.isAgg59 rfl)) rfl ?_
  refine O.l (Lo.call [.map (some b3)] (by exact Try.call59) rfl (w_Keys (.map (some b3)) rfl) [] [0, 1, 2, 3] (by decide) rfl [mi b3 (Value.int .i64) mm, var g5 [.func (.func 69) #[] #[.pointer (some ⟨g1, 0, none⟩), .pointer (some ⟨g4, 0, none⟩), .pointer (some ⟨g5, 0, none⟩)]] 112, var g4 [.map (some b3)] 59, var g1 [lv] 70] rfl RoOk.nil) rfl ?_
  rintro _ _ ⟨_, ⟨g7, rfl, rfl⟩, rfl⟩
  refine O.l (Lo.call [.func (.func 73) #[] #[.pointer (some ⟨g7, 0, none⟩)]] (by exact Try.call58) rfl (w_Sorted g7 (.map (some b3)) mm (by omega)) [] [0, 1, 2, 3, 4] (by decide) rfl [var g7 [.map (some b3)] 59, mi b3 (Value.int .i64) mm, var g5 [.func (.func 69) #[] #[.pointer (some ⟨g1, 0, none⟩), .pointer (some ⟨g4, 0, none⟩), .pointer (some ⟨g5, 0, none⟩)]] 112, var g4 [.map (some b3)] 59, var g1 [lv] 70] rfl (RoOk.of 0 rfl same_rd [] (by decide) rfl (RoOk.of 1 rfl mi_miV [] (by decide) rfl RoOk.nil))) rfl ?_
  rintro v9 _ ⟨_, rfl, rfl⟩
  refine O.p (Pu.assign rfl) rfl ?_
  refine O.nil ?_
  exact J.ret (Fin.ret (rs := [.tmp 4]) rfl [_] ⟨rfl, trivial⟩ [0] (by decide) [row v9 3 1 ((Jb.rising (keysI mm)).map encZ)] rfl (congrArg (fun (z : List Int) => ([row v9 3 1 (z.map encZ)] : List Sp)) (hd.all)))

end Go.Proofs.Ytnkhmbbnabejhaa

namespace Go.Proofs.Ytnkhmbbnabejhaa
open Go Go.LK
set_option linter.unusedSimpArgs false

set_option maxRecDepth 100000 in
theorem bw_74 (gv : Nat) (lv : Value) (l : List Int) (hl : l.length ≤ 1000000000000) : ItC Try.prog 74 #[.pointer (some ⟨gv, 0, none⟩)] [var gv [lv] 24, rd lv 1 (l.map encZ)] (bwXs (fun x : Int => .int .i64 x) l) := by
  refine ItC.enter (lb := [.pointer (some ⟨gv, 0, none⟩)]) (body := _) 19 Try.func74 rfl Try.ntmps74 rfl (by rfl) ?_
  intro y m J Jx R0 W hmem hy h0 hR
  refine JE.seq ?_
  refine JE.region ?_
  refine OE.q (fun A hA => ⟨hmem _ _ h0 A hA, fun k _ hk => by cases hk⟩) (Qt.ld rfl (Cel.roVar 0 rfl) (o := 0) (off := 0) rfl (Cut.one Try.isAgg24 rfl)) rfl ?_
  refine OE.q (fun A hA => ⟨hmem _ _ h0 A hA, fun k _ hk => by cases hk⟩) (Qt.lenM Try.runUnderlying24 rfl (Src.ro 1 rfl)) rfl ?_
  refine OE.p (Pu.sub' rfl rfl (by omega)) rfl ?_
  refine OE.p (Pu.assign rfl) rfl ?_
  refine OE.nil ?_
  refine JE.block ?_
  refine JE.loop (X := Nat) (fun k W => k ≤ l.length ∧ J k W) (fun k => [(0, .func (.yield y) #[] #[]), (1, .pointer (some ⟨gv, 0, none⟩)), (3, .int .i64 ((l.length : Int) - 1 - k))]) (fun k => l.length - k) 0 ⟨Nat.zero_le _, h0⟩ ⟨rfl, rfl, congrArg (fun z => some (Value.int .i64 z)) (by omega), trivial⟩ ?_
  rintro k W1 ⟨hk, hj⟩
  show JE _ _ _ [(0, .func (.yield y) #[] #[]), (1, .pointer (some ⟨gv, 0, none⟩)), (3, .int .i64 ((l.length : Int) - 1 - k))] _
  refine JE.seq ?_
  refine JE.seq ?_
  refine JE.region ?_
  refine OE.p (Pu.move rfl) rfl ?_
  refine OE.p (Pu.geq rfl rfl) rfl ?_
  refine OE.nil ?_
  refine JE.cond rfl (fun h => ?_) (fun h => ?_)
  ·
    have p := of_decide_eq_true h
    refine JE.skip ?_
    refine JE.seq ?_
    refine JE.block ?_
    refine JE.seq ?_
    refine JE.region ?_
    refine OE.p (Pu.move rfl) rfl ?_
    refine OE.p (Pu.move rfl) rfl ?_
    refine OE.q (fun A hA => ⟨hmem _ _ hj A hA, fun k _ hk => by cases hk⟩) (Qt.ld rfl (Cel.roVar 0 rfl) (o := 0) (off := 0) rfl (Cut.one Try.isAgg24 rfl)) rfl ?_
    refine OE.p (Pu.move rfl) rfl ?_
    obtain ⟨e, he⟩ : ∃ x_, l[(((l.length : Int) - 1 - k)).toNat]? = some x_ := ⟨_, List.getElem?_eq_getElem (by omega)⟩
    refine OE.q (fun A hA => ⟨hmem _ _ hj A hA, fun k _ hk => by cases hk⟩) (Qt.idxM Try.runUnderlying24 Try.sizeOf3 rfl (Src.ro 1 rfl) rfl (by omega) (by omega)) rfl ?_
    refine OE.q (fun A hA => ⟨hmem _ _ hj A hA, fun k _ hk => by cases hk⟩) (Qt.ld rfl (Cel.eltM (Src.ro 1 rfl) he) (o := (voff lv + (((l.length : Int) - 1 - k)).toNat * 1)) (off := 0) (by omega) (Cut.one Try.isAgg3 rfl)) rfl ?_
    have hx : (bwXs (fun x : Int => .int .i64 x) l)[k]? = some [.int .i64 ((l.length : Int) - 1 - k), .int .i64 e] := bwXs_at (f := fun x : Int => .int .i64 x) (by omega) (by rw [← he]; congr 1; omega)
    refine OE.yield (K := fun b W' => match b with | true => J (k + 1) W' | false => Jx W') (vs := [.int .i64 ((l.length : Int) - 1 - k), .int .i64 e]) rfl rfl rfl rfl (hy k _ _ hj hx) rfl ?_
    rintro b W2 hK
    cases b
    ·
      refine OE.p (Pu.not rfl) rfl ?_
      refine OE.nil ?_
      refine JE.condT rfl rfl ?_
      exact JE.ret (fun a ha => hR _ _ _ (.inr rfl) ha.defers (.inr hK))
    ·
      refine OE.p (Pu.not rfl) rfl ?_
      refine OE.nil ?_
      refine JE.condF rfl rfl ?_
      refine JE.skip ?_
      refine JE.blk ?_
      refine JE.region ?_
      refine OE.p (Pu.move rfl) rfl ?_
      refine OE.p (Pu.sub' rfl rfl (by omega)) rfl ?_
      refine OE.p (Pu.assign rfl) rfl ?_
      refine OE.nil ?_
      exact JE.again (k + 1) ⟨by omega, hK⟩ (show l.length - (k + 1) < l.length - k from (by omega)) ⟨rfl, rfl, congrArg (fun z => some (Value.int .i64 z)) (by omega), trivial⟩
  ·
    have p := of_decide_eq_false h
    refine JE.exit _ rfl ?_
    refine JE.done (fun a ha => hR _ _ _ (.inl rfl) ha.defers (.inl ?_))
    rw [bwXs_length, show l.length = k from (by omega)]
    exact hj

set_option maxRecDepth 100000 in
theorem g_back (lv : Value) (l : List Int) : Tri Try.prog 67 #[lv] [rd lv 1 (l.map encZ)] [] (fun v L' => ∃ g, v = .func (.func 74) #[] #[.pointer (some ⟨g, 0, none⟩)] ∧ L' = [var g [lv] 24]) := by
  refine Tri.enter (args := [lv]) (body := _) 4 Try.func67 rfl Try.ntmps67 rfl ?_
  intro w0
  refine J.seq ?_
  refine J.region ?_
  refine O.one (Src.ro 0 rfl) (fun hV2 => ?_)
  refine O.l (Lo.box [lv] rfl (one_cells hV2)) rfl ?_
  rintro _ _ ⟨g1, rfl, rfl⟩
  refine O.p (Pu.assign rfl) rfl ?_
  refine O.nil ?_
  refine J.seq ?_
  refine J.region ?_
  refine O.p (Pu.makeFunc [.pointer (some ⟨g1, 0, none⟩)] rfl) rfl ?_
  refine O.p (Pu.assign rfl) rfl ?_
  refine O.nil ?_
  exact J.ret (Fin.ret (rs := [.tmp 2]) rfl [_] ⟨rfl, trivial⟩ [0] (by decide) [var g1 [lv] 24] rfl ⟨g1, rfl, rfl⟩)

set_option maxRecDepth 100000 in
set_option maxHeartbeats 1000000 in
theorem g_Depth (lv : Value) (l : List Sg) (n : Int) (hl : l.length ≤ 1000) (hc : ∀ s ∈ l, s.cl.length ≤ 1000) : Tri Try.prog 42 #[.int .i64 n, lv] [rd lv 14 (l.map Sg.cells), ros (l.map Sg.rd)] [] (fun v L' => v = .tuple #[.int .i64 (Gr.depI (gOf l) n).1, .int .i64 (Gr.depI (gOf l) n).2] ∧ L' = []) := by
  have hgl := gOf_len (l := l)
  refine Tri.enterI (args := [.int .i64 n, lv]) (body := _) 62 Try.func42 rfl Try.ntmps42 rfl ?_
  intro w0
  refine JI.seq ?_
  refine JI.regionUp rfl ?_
  refine O.one (Src.ro 0 rfl) (fun hV2 => ?_)
  refine O.l (Lo.box [lv] rfl (one_cells hV2)) rfl ?_
  rintro _ _ ⟨g1, rfl, rfl⟩
  refine O.p (Pu.assign rfl) rfl ?_
  refine O.p (Pu.assign rfl) rfl ?_
  refine O.nilUp ?_
  refine JI.seq ?_
  refine JI.seq ?_
  refine JI.regionUp rfl ?_
  refine O.p (Pu.move rfl) rfl ?_
  refine O.p (Pu.lss rfl rfl) rfl ?_
  refine O.p (Pu.move rfl) rfl ?_
  refine by_bool (decide (n < 0)) (fun h3 => ?_) (fun h3 => ?_)
  ·
    have p4 := of_decide_eq_true h3
    refine O.gskip (t := 15) rfl rfl (no_bool (by rw [h3]; decide)) rfl rfl ?_
    refine O.gskip (t := 15) rfl rfl (no_bool (by rw [h3]; decide)) rfl rfl ?_
    refine O.gskip (t := 15) rfl rfl (no_bool (by rw [h3]; decide)) rfl rfl ?_
    refine O.gskip (t := 15) rfl rfl (no_bool (by rw [h3]; decide)) rfl rfl ?_
    refine O.p (Pu.pickT rfl h3 rfl) rfl ?_
    refine O.nilUp ?_
    refine JI.condT rfl rfl ?_
    refine JI.seq ?_
    refine JI.regionUp rfl ?_
    refine O.p (Pu.assign rfl) rfl ?_
    refine O.p (Pu.assign rfl) rfl ?_
    refine O.nilUp ?_
    exact JI.retM0 rfl rfl (Fin.ret (rs := [.tmp 4, .tmp 5]) rfl [_, _] ⟨rfl, rfl, trivial⟩ [] (by decide) [] rfl ⟨(by rw [Gr.depI_out (g := (gOf l)) (by omega)]; rfl), rfl⟩)
  ·
    have p5 := of_decide_eq_false h3
    refine O.gq (t := 15) rfl rfl h3 rfl (Pu.qt (Pu.move rfl)) rfl ?_
    refine O.gq (t := 15) rfl rfl h3 rfl (Qt.ld rfl (Cel.var 0 rfl) (o := 0) (off := 0) rfl (Cut.one Try.isAgg70 rfl)) rfl ?_
    refine O.gq (t := 15) rfl rfl h3 rfl (Qt.lenM Try.runUnderlying70 rfl (Src.ro 0 rfl)) rfl ?_
    refine O.gq (t := 15) rfl rfl h3 rfl (Pu.qt (Pu.geq rfl rfl)) rfl ?_
    refine O.p (Pu.pickF rfl h3 rfl) rfl ?_
    refine O.nilUp ?_
    refine JI.cond rfl (fun h6 => ?_) (fun h6 => ?_)
    ·
      have p7 := of_decide_eq_true h6
      refine JI.seq ?_
      refine JI.regionUp rfl ?_
      refine O.p (Pu.assign rfl) rfl ?_
      refine O.p (Pu.assign rfl) rfl ?_
      refine O.nilUp ?_
      exact JI.retM0 rfl rfl (Fin.ret (rs := [.tmp 4, .tmp 5]) rfl [_, _] ⟨rfl, rfl, trivial⟩ [] (by decide) [] rfl ⟨(by rw [Gr.depI_out (g := (gOf l)) (by omega)]; rfl), rfl⟩)
    ·
      have p8 := of_decide_eq_false h6
      refine JI.skip ?_
      refine JI.seq ?_
      refine JI.regionUp rfl ?_
      refine O.q (Qt.ld rfl (Cel.var 0 rfl) (o := 0) (off := 0) rfl (Cut.one Try.isAgg70 rfl)) rfl ?_
      refine O.l (Lo.call [lv] (by exact Try.call40) rfl (g_Order lv l hl hc) [] [0] (by decide) rfl [var g1 [lv] 70] rfl (RoOk.ro 0 rfl [] rfl (RoOk.ro 1 rfl [] rfl RoOk.nil))) rfl ?_
      rintro _ _ ⟨_, ⟨V9, rfl, rfl⟩, rfl⟩
      refine O.p (Pu.move rfl) rfl ?_
      refine O.p (Pu.extract rfl rfl) rfl ?_
      refine O.p (Pu.extract rfl rfl) rfl ?_
      refine O.p (Pu.assign rfl) rfl ?_
      refine O.p (Pu.assign rfl) rfl ?_
      refine O.nilUp ?_
      refine JI.seq ?_
      refine JI.seq ?_
      refine JI.regionUp rfl ?_
      refine O.p (Pu.move rfl) rfl ?_
      refine O.p (Pu.neq rfl rfl) rfl ?_
      refine O.nilUp ?_
      refine JI.cond rfl (fun h11 => ?_) (fun h11 => ?_)
      ·
        have p12 := of_decide_eq_true h11
        refine JI.seq ?_
        refine JI.regionUp rfl ?_
        refine O.p (Pu.move rfl) rfl ?_
        refine O.p (Pu.assign rfl) rfl ?_
        refine O.p (Pu.assign rfl) rfl ?_
        refine O.nilUp ?_
        exact JI.retM0 rfl rfl (Fin.ret (rs := [.tmp 4, .tmp 5]) rfl [_, _] ⟨rfl, rfl, trivial⟩ [] (by decide) [] rfl ⟨(by rw [Gr.depI_loops (g := (gOf l)) (by omega) (by assumption)]; rfl), rfl⟩)
      ·
        have p13 := of_decide_eq_false h11
        refine JI.skip ?_
        refine JI.seq ?_
        obtain ⟨o, ho⟩ := Gr.loops_ord (g := (gOf l)) (by assumption)
        have hol := Gr.ord_len ho
        refine JI.regionUp rfl ?_
        refine O.q (Qt.ld rfl (Cel.var 1 rfl) (o := 0) (off := 0) rfl (Cut.one Try.isAgg70 rfl)) rfl ?_
        refine O.q (Qt.lenM Try.runUnderlying70 rfl (Src.ro 0 rfl)) rfl ?_
        refine O.l (Lo.makeSliceN (z := (0 : Int)) (f := encZ) (m := l.length) (s := 1) (bytes := 8) (by exact Try.runUnderlying24) (fun w => run_typeInfo w (by exact (info3).1)) (by exact (info3).2.2.2) (by exact Try.sizeOf3) (by exact Try.zeroValue3) rfl rfl (by omega) (by omega) (by decide) rfl rfl (by decide) rfl) rfl ?_
        rintro V14 _ rfl
        refine O.l (Lo.alloc [Value.slice none 0 0] (by exact Try.zeroValue24) rfl) rfl ?_
        rintro _ _ ⟨g15, rfl, rfl⟩
        refine O.one (Src.row 1 rfl) (fun hV16 => ?_)
        refine O.l0 (Lo.store 0 (vs := [V14]) [V14] rfl rfl rfl (by exact Try.sizeOf24) (one_cells hV16) rfl (one_all hV16) rfl rfl) ?_
        rintro _ _ rfl
        refine O.nilUp ?_
        refine JI.seq ?_
        refine JI.seq ?_
        refine JI.regionUp rfl ?_
        refine O.p (Pu.move rfl) rfl ?_
        refine O.l (Lo.call [V9] (by exact Try.call67) rfl (g_back V9 (Gr.ordL (gOf l))) [] [0, 1, 2, 3] (by decide) rfl [var g15 [V14] 24, row V14 3 1 ((List.replicate l.length (0 : Int)).map encZ), row V9 3 1 ((Gr.ordL (gOf l)).map encZ), var g1 [lv] 70] rfl (RoOk.of 2 rfl row_rd [] (by decide) rfl RoOk.nil)) rfl ?_
        rintro _ _ ⟨_, ⟨gb17, rfl, rfl⟩, rfl⟩
        refine O.nilUp ?_
        refine JI.block ?_
        refine JI.trim [(0, .int .i64 n), (3, .pointer (some ⟨g1, 0, none⟩)), (4, .int .i64 0), (5, .int .i64 0), (8, .pointer (some ⟨g15, 0, none⟩)), (33, .func (.func 74) #[] #[.pointer (some ⟨gb17, 0, none⟩)])] ⟨rfl, rfl, rfl, rfl, rfl, rfl, trivial⟩ ?_
        refine JI.range (gf := 74) (X := List Int) (Z := Unit) (fun m ξ => m ≤ o.length ∧ ξ = Gr.deepL (gOf l) (o.drop (o.length - m))) (fun ξ => [var gb17 [V9] 24, var g15 [V14] 24, row V14 3 1 (ξ.map encZ), row V9 3 1 ((Gr.ordL (gOf l)).map encZ), var g1 [lv] 70]) (fun x ξ => x = .ret ∧ (False)) (fun ξ => []) rfl rfl (fun _ _ => by rfl) (bw_74 gb17 V9 (Gr.ordL (gOf l)) (by have h_ := Gr.ordL_length ho; have h2_ := Gr.ord_len ho; omega)) (by intro x hx; obtain ⟨j, hj⟩ := List.mem_iff_getElem?.1 hx; obtain ⟨e, _, rfl⟩ := bwXs_get hj; rfl) rfl (List.replicate l.length (0 : Int)) ⟨Nat.zero_le _, by rw [← hgl]; exact Gr.deep_begin⟩ [0, 1, 2, 3, 4] (by decide) rfl (fun ξ => (RoOk.own 0 rfl (RoOk.ownRd 3 rfl row_rd RoOk.nil))) (fun l19 D19 rec19 m19 d x19 hS19 hT19 hy19 hx19 => ?_) (fun l19 D19 r19 d hy19 => ?_) (fun l19 D19 r19 x19 y19 hy19 => ?_)
        ·
          obtain ⟨e20, he21, rfl⟩ := bwXs_get hx19
          obtain ⟨hmle, hdd⟩ : m19 ≤ o.length ∧ d = Gr.deepL (gOf l) (o.drop (o.length - m19)) := hy19
          show JI _ _ _ ([(35, .int .i64 e20), (34, .int .i64 (((Gr.ordL (gOf l)).length : Int) - 1 - m19))] ++ [(0, .int .i64 n), (3, .pointer (some ⟨g1, 0, none⟩)), (4, .int .i64 0), (5, .int .i64 0), (8, .pointer (some ⟨g15, 0, none⟩)), (33, .func (.func 74) #[] #[.pointer (some ⟨gb17, 0, none⟩)])]) [blk l19 (.loop (rec19 .ready none)), blk D19 (.deferred (some [])), var gb17 [V9] 24, var g15 [V14] 24, row V14 3 1 (d.map encZ), row V9 3 1 ((Gr.ordL (gOf l)).map encZ), var g1 [lv] 70]
          refine JI.regionUp rfl ?_
          refine O.p (Pu.assign rfl) rfl ?_
          refine O.nilUp ?_
          refine JI.begin (hS19 _ _) ?_
          refine JI.block ?_
          refine JI.seq ?_
          obtain ⟨p, hpe, hmo, hpo, hpl, hpn⟩ := Gr.ord_at ho he21
          subst hpe
          have hclen := Gr.called_len (g := (gOf l)) (f := (p : Int))
          refine JI.regionUp rfl ?_
          refine O.q (Qt.ld rfl (Cel.var 6 rfl) (o := 0) (off := 0) rfl (Cut.one Try.isAgg70 rfl)) rfl ?_
          refine O.p (Pu.move rfl) rfl ?_
          refine O.l (Lo.call [lv, .int .i64 (p : Int)] (by exact Try.call64) rfl (g_called lv l (p : Int) hl hc) [] [0, 1, 2, 3, 4, 5, 6] (by decide) rfl [blk l19 (.loop { rec19 .ready none with state := .busy }), blk D19 (.deferred (some [])), var gb17 [V9] 24, var g15 [V14] 24, row V14 3 1 (d.map encZ), row V9 3 1 ((Gr.ordL (gOf l)).map encZ), var g1 [lv] 70] rfl (RoOk.ro 0 rfl [] rfl (RoOk.ro 1 rfl [] rfl RoOk.nil))) rfl ?_
          rintro v22 _ ⟨_, rfl, rfl⟩
          refine O.q (Qt.lenM Try.runUnderlying24 rfl (Src.row 0 rfl)) rfl ?_
          refine O.p (Pu.move rfl) rfl ?_
          refine O.nilUp ?_
          refine JI.block ?_
          refine JI.loop (X := Nat × Int × List Int) (fun ξ => ξ.1 ≤ (Gr.called (gOf l) (p : Int)).length ∧ Gr.MaxOf (Gr.dep (gOf l)) (Gr.nats ((Gr.called (gOf l) (p : Int)).take ξ.1)) ξ.2.1 ∧ ξ.2.2 = Gr.deepQ (gOf l) (o.drop (o.length - m19)) p ξ.2.1) (fun ξ => [(4, .int .i64 0), (5, .int .i64 0), (8, .pointer (some ⟨g15, 0, none⟩)), (10, .int .i64 (p : Int)), (38, v22), (39, .int .i64 ((Gr.called (gOf l) (p : Int)).length : Int)), (40, .int .i64 (ξ.1 : Int))]) (fun ξ => [row v22 3 1 ((Gr.called (gOf l) (p : Int)).map encZ), blk l19 (.loop { rec19 .ready none with state := .busy }), blk D19 (.deferred (some [])), var gb17 [V9] 24, var g15 [V14] 24, row V14 3 1 (ξ.2.2.map encZ), row V9 3 1 ((Gr.ordL (gOf l)).map encZ), var g1 [lv] 70]) (fun ξ => (Gr.called (gOf l) (p : Int)).length - ξ.1) ⟨0, 0, d⟩ (show 0 ≤ (Gr.called (gOf l) (p : Int)).length ∧ Gr.MaxOf (Gr.dep (gOf l)) (Gr.nats ((Gr.called (gOf l) (p : Int)).take 0)) 0 ∧ d = Gr.deepQ (gOf l) (o.drop (o.length - m19)) p 0 from ⟨by omega, Gr.MaxOf.nil, Gr.deep_zero hpn hdd⟩) ⟨rfl, rfl, rfl, rfl, rfl, rfl, (congrArg (fun z => some (Value.int .i64 z)) (by first | rfl | omega : (0 : Int) = (0 : Int))), trivial⟩ [0, 1, 2, 3, 4, 5, 6, 7] (by decide) rfl ?_
          rintro ⟨q, b, d2⟩ hq23
          obtain ⟨hq, hmx, hd2⟩ : q ≤ (Gr.called (gOf l) (p : Int)).length ∧ Gr.MaxOf (Gr.dep (gOf l)) (Gr.nats ((Gr.called (gOf l) (p : Int)).take q)) b ∧ d2 = Gr.deepQ (gOf l) (o.drop (o.length - m19)) p b := hq23
          show JI _ _ _ [(4, .int .i64 0), (5, .int .i64 0), (8, .pointer (some ⟨g15, 0, none⟩)), (10, .int .i64 (p : Int)), (38, v22), (39, .int .i64 ((Gr.called (gOf l) (p : Int)).length : Int)), (40, .int .i64 (q : Int))] [row v22 3 1 ((Gr.called (gOf l) (p : Int)).map encZ), blk l19 (.loop { rec19 .ready none with state := .busy }), blk D19 (.deferred (some [])), var gb17 [V9] 24, var g15 [V14] 24, row V14 3 1 (d2.map encZ), row V9 3 1 ((Gr.ordL (gOf l)).map encZ), var g1 [lv] 70]
          refine JI.seq ?_
          refine JI.regionUp rfl ?_
          refine O.p (Pu.lss rfl rfl) rfl ?_
          refine O.nilUp ?_
          refine JI.seq ?_
          refine JI.cond rfl (fun h24 => ?_) (fun h24 => ?_)
          ·
            have p25 := of_decide_eq_true h24
            refine JI.skip ?_
            refine JI.seq ?_
            refine JI.block ?_
            refine JI.seq ?_
            refine JI.regionUp rfl ?_
            obtain ⟨e26, he26⟩ : ∃ x_, (Gr.called (gOf l) (p : Int))[q]? = some x_ := ⟨_, List.getElem?_eq_getElem (by first | omega | (have h_ := Gr.deepL_len (g := (gOf l)); omega))⟩
            refine O.q (Qt.idxM Try.runUnderlying24 Try.sizeOf3 rfl (Src.row 0 rfl) rfl (by first | omega | (have h_ := Gr.deepL_len (g := (gOf l)); omega)) (by first | omega | (have h_ := Gr.deepL_len (g := (gOf l)); omega))) rfl ?_
            refine O.q (Qt.ld rfl (Cel.eltM (Src.row 0 rfl) he26) (o := (voff v22 + q * 1)) (off := 0) (by omega) (Cut.one Try.isAgg3 rfl)) rfl ?_
            refine O.p (Pu.assign rfl) rfl ?_
            refine O.nilUp ?_
            obtain ⟨jt, hjt, hjl⟩ := Gr.called_bnd he26
            have hdl : d2.length = l.length := by rw [hd2, Gr.deepQ_length, hgl]
            obtain ⟨e27, he27⟩ : ∃ x_, d2[p]? = some x_ := ⟨_, List.getElem?_eq_getElem (by first | omega | (have h_ := Gr.deepL_len (g := (gOf l)); omega))⟩
            obtain ⟨e28, he28⟩ : ∃ x_, d2[(e26).toNat]? = some x_ := ⟨_, List.getElem?_eq_getElem (by first | omega | (have h_ := Gr.deepL_len (g := (gOf l)); omega))⟩
            obtain ⟨hs1, hs2, hs3, hs4⟩ := Gr.deep_step ho hmo hpo he26 hmx hd2 he27 he28
            refine JI.drawTail 13 Try.mixed (by kernel_rfl) rfl ?_
            refine S.q (Qt.ld rfl (Cel.var 4 rfl) (o := 0) (off := 0) rfl (Cut.one Try.isAgg24 rfl)) rfl ?_
            refine S.p (Pu.move rfl) rfl ?_
            refine S.q (Qt.ld rfl (Cel.var 4 rfl) (o := 0) (off := 0) rfl (Cut.one Try.isAgg24 rfl)) rfl ?_
            refine S.p (Pu.move rfl) rfl ?_
            refine S.q (Qt.idxM Try.runUnderlying24 Try.sizeOf3 rfl (Src.row 5 rfl) rfl (by first | omega | (have h_ := Gr.deepL_len (g := (gOf l)); omega)) (by first | omega | (have h_ := Gr.deepL_len (g := (gOf l)); omega))) rfl ?_
            refine S.q (Qt.ld rfl (Cel.eltM (Src.row 5 rfl) he27) (o := (voff V14 + p * 1)) (off := 0) (by omega) (Cut.one Try.isAgg3 rfl)) rfl ?_
            refine S.q (Qt.ld rfl (Cel.var 4 rfl) (o := 0) (off := 0) rfl (Cut.one Try.isAgg24 rfl)) rfl ?_
            refine S.p (Pu.move rfl) rfl ?_
            refine S.q (Qt.idxM Try.runUnderlying24 Try.sizeOf3 rfl (Src.row 5 rfl) rfl (by first | omega | (have h_ := Gr.deepL_len (g := (gOf l)); omega)) (by first | omega | (have h_ := Gr.deepL_len (g := (gOf l)); omega))) rfl ?_
            refine S.q (Qt.ld rfl (Cel.eltM (Src.row 5 rfl) he28) (o := (voff V14 + ((e26).toNat) * 1)) (off := 0) (by omega) (Cut.one Try.isAgg3 rfl)) rfl ?_
            refine S.p (Pu.add' rfl rfl (by omega)) rfl ?_
            refine S.p (Pu.max rfl rfl) rfl ?_
            refine S.q (Qt.idxM Try.runUnderlying24 Try.sizeOf3 rfl (Src.row 5 rfl) rfl (by first | omega | (have h_ := Gr.deepL_len (g := (gOf l)); omega)) (by first | omega | (have h_ := Gr.deepL_len (g := (gOf l)); omega))) rfl ?_
            refine S.endO ?_
            refine O.l0 (Lo.storeM 5 (j := p) (off := 0) (vs := [.int .i64 (if (e28 + 1) > e27 then (e28 + 1) else e27)]) (e := [.int .i64 e27]) (if (e28 + 1) > e27 then (e28 + 1) else e27) rfl rfl rfl rfl (by omega) he27 rfl (by exact Try.sizeOf3) rfl rfl rfl rfl rfl) ?_
            rintro _ _ rfl
            have hs29 : (d2.set p (if (e28 + 1) > e27 then (e28 + 1) else e27))[p]? = some (if (e28 + 1) > e27 then (e28 + 1) else e27) := List.getElem?_set_self (List.getElem?_eq_some_iff.1 he27).1
            refine O.nilUp ?_
            refine JI.blk ?_
            refine JI.regionUp rfl ?_
            refine O.p (Pu.add' rfl rfl (by omega)) rfl ?_
            refine O.p (Pu.move rfl) rfl ?_
            refine O.nilUp ?_
            exact JI.lp ⟨q + 1, (if (e28 + 1) > e27 then (e28 + 1) else e27), d2.set p (if (e28 + 1) > e27 then (e28 + 1) else e27)⟩ (show (q + 1) ≤ (Gr.called (gOf l) (p : Int)).length ∧ Gr.MaxOf (Gr.dep (gOf l)) (Gr.nats ((Gr.called (gOf l) (p : Int)).take (q + 1))) (if (e28 + 1) > e27 then (e28 + 1) else e27) ∧ (d2.set p (if (e28 + 1) > e27 then (e28 + 1) else e27)) = Gr.deepQ (gOf l) (o.drop (o.length - m19)) p (if (e28 + 1) > e27 then (e28 + 1) else e27) from ⟨by omega, hs1, hs2⟩) (show (Gr.called (gOf l) (p : Int)).length - (q + 1) < (Gr.called (gOf l) (p : Int)).length - q from (by first | omega | (have h_ := Gr.deepL_len (g := (gOf l)); omega))) ⟨rfl, rfl, rfl, rfl, rfl, rfl, (congrArg (fun z => some (Value.int .i64 z)) (by first | rfl | omega : ((q : Int) + 1 : Int) = ((q + 1) : Int))), trivial⟩ [0, 1, 2, 3, 4, 5, 6, 7] (by decide) rfl
          ·
            have p30 := of_decide_eq_false h24
            refine JI.exit _ rfl ?_
            refine JI.blk ?_
            exact RE.nextS d2 (show (m19 + 1) ≤ o.length ∧ d2 = Gr.deepL (gOf l) (o.drop (o.length - (m19 + 1))) from ⟨by omega, Gr.deep_end ho hmo hpo hmx (by assumption) hd2⟩) rfl [1, 2, 3, 4, 5, 6, 7] (by decide) rfl (hT19 .ready none .ready none)
        ·
          obtain ⟨hmle, hdd⟩ : (bwXs (fun x : Int => .int .i64 x) (Gr.ordL (gOf l))).length ≤ o.length ∧ d = Gr.deepL (gOf l) (o.drop (o.length - (bwXs (fun x : Int => .int .i64 x) (Gr.ordL (gOf l))).length)) := hy19
          rw [bwXs_length, Gr.ordL_length ho] at hdd
          show JI _ _ _ [(0, .int .i64 n), (3, .pointer (some ⟨g1, 0, none⟩)), (4, .int .i64 0), (5, .int .i64 0), (8, .pointer (some ⟨g15, 0, none⟩)), (33, .func (.func 74) #[] #[.pointer (some ⟨gb17, 0, none⟩)])] [blk l19 (.loop r19), blk D19 (.deferred (some [])), var gb17 [V9] 24, var g15 [V14] 24, row V14 3 1 (d.map encZ), row V9 3 1 ((Gr.ordL (gOf l)).map encZ), var g1 [lv] 70]
          refine JI.blk ?_
          refine JI.seq ?_
          have hdl : d.length = l.length := by rw [hdd, Gr.deepL_len, hgl]
          refine JI.regionUp rfl ?_
          refine O.q (Qt.ld rfl (Cel.var 3 rfl) (o := 0) (off := 0) rfl (Cut.one Try.isAgg24 rfl)) rfl ?_
          refine O.p (Pu.move rfl) rfl ?_
          obtain ⟨e31, he31⟩ : ∃ x_, d[(n).toNat]? = some x_ := ⟨_, List.getElem?_eq_getElem (by first | omega | (have h_ := Gr.deepL_len (g := (gOf l)); omega))⟩
          refine O.q (Qt.idxM Try.runUnderlying24 Try.sizeOf3 rfl (Src.row 4 rfl) rfl (by first | omega | (have h_ := Gr.deepL_len (g := (gOf l)); omega)) (by first | omega | (have h_ := Gr.deepL_len (g := (gOf l)); omega))) rfl ?_
          refine O.q (Qt.ld rfl (Cel.eltM (Src.row 4 rfl) he31) (o := (voff V14 + ((n).toNat) * 1)) (off := 0) (by omega) (Cut.one Try.isAgg3 rfl)) rfl ?_
          refine O.p (Pu.assign rfl) rfl ?_
          refine O.p (Pu.assign rfl) rfl ?_
          refine O.nilUp ?_
          exact JI.retM (j := 1) rfl rfl rfl (Fin.ret (rs := [.tmp 4, .tmp 5]) rfl [_, _] ⟨rfl, rfl, trivial⟩ [] (by decide) [] rfl ⟨(by rw [Gr.depI_in (g := (gOf l)) (by omega) (Gr.loops_yes ho), ← Gr.deep_at ho hdd he31]; rfl), rfl⟩)
        ·
          exact hy19.2.elim

end Go.Proofs.Ytnkhmbbnabejhaa
