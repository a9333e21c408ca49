/-
  Walks, printed by a program of mine (lk.py): each function meets its contract.
-/
import Derived.KernelRfl
import Derived.Test.YtilcmkegbmppnaaDoorCX6
namespace Go.Proofs.YtilcmkegbmppnaaDoor
open Go Go.LK
set_option linter.unusedSimpArgs false

theorem cf_Call_back (line : List UInt8) (n : List Int) (cs : List Cl) (k : Nat) (h : (Cf.lines n cs)[k + 1]? = some line) (hC : ∀ c ∈ cs, Cf.ClI c) : Tri Tryd.prog 12 #[str line] [libW] [] (fun v L' => ∃ c : Cl, cs[k]? = some c ∧ v = .tuple #[.agg #[.int .i64 c.to, .int .i64 c.tier, .int .i64 c.weight, .int .i64 c.most], .bool true] ∧ L' = []) := by
  obtain ⟨c, hc, rfl⟩ := Cf.lines_kc h
  have hI := hC c (List.mem_of_getElem? hc)
  have := cf_Call_eq _ c (Nat.le_trans (Cf.crow_len hI) (by decide)) (Cf.call_back hI)
  exact fun w hro hst => (this w hro hst).mono fun _ _ ⟨v, L', he, ⟨hv, hL⟩, hs⟩ => ⟨v, L', he, ⟨c, hc, hv, hL⟩, hs⟩
theorem cf_Head_eq (line : List UInt8) (x0 x1 x2 x3 x4 x5 x6 x7 x8 x9 x10 x11 x12 : Int) (hs : line.length ≤ 100000) (h : Cf.numbers line Cf.svcW Cf.heads = ([x0, x1, x2, x3, x4, x5, x6, x7, x8, x9, x10, x11, x12], true)) : Tri Tryd.prog 10 #[str line] [libW, var 0 (Kn.names.map vS) 130] [] (fun v L' => v = .tuple #[.agg #[.int .i64 x0, .int .i64 x1, .int .i64 x2, .int .i64 x3, .int .i64 x4, .int .i64 x5, .int .i64 x6, .int .i64 x7, .int .i64 x8, .int .i64 x9, .int .i64 x10, .int .i64 x11, .int .i64 x12, Value.slice none 0 0], .bool true] ∧ L' = []) := by
  have := cf_Head line hs
  exact fun w hro hst => (this w hro hst).mono fun _ _ ⟨v, L', he, ⟨v0, v1, v2, v3, v4, v5, v6, v7, v8, v9, v10, v11, v12, hl, hv, hL⟩, hs⟩ => by
    rw [Cf.headL_yes (by rw [h]), h] at hl
    rw [h] at hv
    simp only [List.cons.injEq, and_true] at hl
    obtain ⟨rfl, rfl, rfl, rfl, rfl, rfl, rfl, rfl, rfl, rfl, rfl, rfl, rfl⟩ := hl
    exact ⟨v, L', he, ⟨hv, hL⟩, hs⟩

set_option maxRecDepth 100000 in
set_option maxHeartbeats 1000000 in
theorem law28_confBack (x0 x1 x2 x3 x4 x5 x6 x7 x8 x9 x10 x11 x12 : Int) (cv : Value) (cs : List Cl) (hI : Kn.I64s [x0, x1, x2, x3, x4, x5, x6, x7, x8, x9, x10, x11, x12]) (hC : ∀ c ∈ cs, Cf.ClI c) : Tri Tryd.prog 4 #[.agg #[.int .i64 x0, .int .i64 x1, .int .i64 x2, .int .i64 x3, .int .i64 x4, .int .i64 x5, .int .i64 x6, .int .i64 x7, .int .i64 x8, .int .i64 x9, .int .i64 x10, .int .i64 x11, .int .i64 x12, cv]] [libW, var 0 (Kn.names.map vS) 130, rd cv 4 (cs.map Cl.cells)] [] (fun v L' => v = .bool true ∧ L' = []) := by
  refine Tri.enter (args := [.agg #[.int .i64 x0, .int .i64 x1, .int .i64 x2, .int .i64 x3, .int .i64 x4, .int .i64 x5, .int .i64 x6, .int .i64 x7, .int .i64 x8, .int .i64 x9, .int .i64 x10, .int .i64 x11, .int .i64 x12, cv]]) (body := _) 92 Tryd.func4 rfl Tryd.ntmps4 rfl ?_
  intro w0
  refine J.seq ?_
  refine J.region ?_
  refine O.one (Src.ro 2 rfl) (fun hV2 => ?_)
  refine O.l (Lo.box [.int .i64 x0, .int .i64 x1, .int .i64 x2, .int .i64 x3, .int .i64 x4, .int .i64 x5, .int .i64 x6, .int .i64 x7, .int .i64 x8, .int .i64 x9, .int .i64 x10, .int .i64 x11, .int .i64 x12, cv] rfl rfl) rfl ?_
  rintro _ _ ⟨g1, rfl, rfl⟩
  refine O.p (Pu.assign rfl) rfl ?_
  refine O.nil ?_
  refine J.seq ?_
  refine J.seq ?_
  refine J.region ?_
  refine O.p (Pu.fieldAddr (off' := 13) Tryd.runUnderlying26 rfl Tryd.sizeOf24 rfl rfl rfl) rfl ?_
  refine O.q (Qt.ld rfl (Cel.var 0 rfl) (o := 0) (off := 13) rfl (Cut.one Tryd.isAgg24 rfl)) rfl ?_
  refine O.q (Qt.lenM Tryd.runUnderlying24 rfl (Src.ro 2 rfl)) rfl ?_
  refine O.p (Pu.gtr rfl rfl) rfl ?_
  refine O.nil ?_
  refine J.cond rfl (fun h3 => ?_) (fun h3 => ?_)
  ·
    have p4 := of_decide_eq_true h3
    refine J.seq ?_
    refine J.region ?_
    refine O.l (Lo.call [] (by exact Tryd.call7) rfl law28_awake [] [0] (by decide) rfl [var g1 [.int .i64 x0, .int .i64 x1, .int .i64 x2, .int .i64 x3, .int .i64 x4, .int .i64 x5, .int .i64 x6, .int .i64 x7, .int .i64 x8, .int .i64 x9, .int .i64 x10, .int .i64 x11, .int .i64 x12, cv] 26] rfl (RoOk.ro 0 rfl [] rfl (RoOk.ro 1 rfl [] rfl RoOk.nil))) rfl ?_
    rintro _ _ ⟨_, ⟨rfl, rfl⟩, rfl⟩
    refine O.p (Pu.assign rfl) rfl ?_
    refine O.nil ?_
    exact J.ret (Fin.ret (rs := [.tmp 2]) rfl [_] ⟨rfl, trivial⟩ [] (by decide) [] rfl ⟨rfl, rfl⟩)
  ·
    have p6 := of_decide_eq_false h3
    refine J.skip ?_
    refine J.seq ?_
    refine J.region ?_
    refine O.q (Qt.ld rfl (Cel.var 0 rfl) (o := 0) (off := 0) rfl (Cut.agg [.int .i64 x0, .int .i64 x1, .int .i64 x2, .int .i64 x3, .int .i64 x4, .int .i64 x5, .int .i64 x6, .int .i64 x7, .int .i64 x8, .int .i64 x9, .int .i64 x10, .int .i64 x11, .int .i64 x12, cv] Tryd.isAgg26 Tryd.sizeOf26 rfl rfl)) rfl ?_
    refine O.l (Lo.call [.agg #[.int .i64 x0, .int .i64 x1, .int .i64 x2, .int .i64 x3, .int .i64 x4, .int .i64 x5, .int .i64 x6, .int .i64 x7, .int .i64 x8, .int .i64 x9, .int .i64 x10, .int .i64 x11, .int .i64 x12, cv]] (by exact Tryd.call15) rfl (cf_Lines x0 x1 x2 x3 x4 x5 x6 x7 x8 x9 x10 x11 x12 cv cs hI hC (by omega)) [] [0] (by decide) rfl [var g1 [.int .i64 x0, .int .i64 x1, .int .i64 x2, .int .i64 x3, .int .i64 x4, .int .i64 x5, .int .i64 x6, .int .i64 x7, .int .i64 x8, .int .i64 x9, .int .i64 x10, .int .i64 x11, .int .i64 x12, cv] 26] rfl (RoOk.ro 0 rfl [] rfl (RoOk.ro 1 rfl [] rfl (RoOk.ro 2 rfl [] rfl RoOk.nil)))) rfl ?_
    rintro v7 _ ⟨_, rfl, rfl⟩
    refine O.p (Pu.assign rfl) rfl ?_
    refine O.nil ?_
    refine J.seq ?_
    refine J.seq ?_
    refine J.region ?_
    refine O.p (Pu.move rfl) rfl ?_
    refine O.q (Qt.lenM Tryd.runUnderlying27 rfl (Src.row 0 rfl)) rfl ?_
    refine O.p (Pu.fieldAddr (off' := 13) Tryd.runUnderlying26 rfl Tryd.sizeOf24 rfl rfl rfl) rfl ?_
    refine O.q (Qt.ld rfl (Cel.var 1 rfl) (o := 0) (off := 13) rfl (Cut.one Tryd.isAgg24 rfl)) rfl ?_
    refine O.q (Qt.lenM Tryd.runUnderlying24 rfl (Src.ro 2 rfl)) rfl ?_
    refine O.p (Pu.add' rfl rfl (by first | omega | (have h_ := Cf.split_len cs; omega))) rfl ?_
    refine O.p (Pu.neq rfl rfl) rfl ?_
    refine O.nil ?_
    refine J.condF rfl (decide_eq_false (by rw [Cf.lines_len]; omega)) ?_
    refine J.skip ?_
    refine J.seq ?_
    refine J.region ?_
    refine O.p (Pu.move rfl) rfl ?_
    obtain ⟨e8, he8⟩ : ∃ x_, (Cf.lines [x0, x1, x2, x3, x4, x5, x6, x7, x8, x9, x10, x11, x12] cs)[0]? = some x_ := ⟨_, List.getElem?_eq_getElem (by first | omega | (rw [Cf.lines_len]; omega) | (rw [Cf.lines_len] at *; omega) | (have ho_ := congrArg List.length hout; rw [List.length_take] at ho_; simp only [List.length_append, List.length_cons, List.length_nil]; omega))⟩
    refine O.q (Qt.idxM Tryd.runUnderlying27 Tryd.sizeOf9 rfl (Src.row 0 rfl) rfl (by first | omega | (rw [Cf.lines_len]; omega) | (rw [Cf.lines_len] at *; omega) | (have ho_ := congrArg List.length hout; rw [List.length_take] at ho_; simp only [List.length_append, List.length_cons, List.length_nil]; omega)) (by first | omega | (rw [Cf.lines_len]; omega) | (rw [Cf.lines_len] at *; omega) | (have ho_ := congrArg List.length hout; rw [List.length_take] at ho_; simp only [List.length_append, List.length_cons, List.length_nil]; omega))) rfl ?_
    refine O.q (Qt.ld rfl (Cel.eltM (Src.row 0 rfl) he8) (o := (voff v7 + 0 * 1)) (off := 0) (by omega) (Cut.one Tryd.isAgg9 rfl)) rfl ?_
    refine O.l (Lo.call [str e8] (by exact Tryd.call10) rfl (cf_Head_eq e8 x0 x1 x2 x3 x4 x5 x6 x7 x8 x9 x10 x11 x12 (Nat.le_trans (Cf.lines_le hI hC _ (List.mem_of_getElem? he8)) (by decide)) (by rw [Cf.lines_0 he8]; exact Cf.head_back rfl hI)) [] [0, 1] (by decide) rfl [row v7 9 1 ((Cf.lines [x0, x1, x2, x3, x4, x5, x6, x7, x8, x9, x10, x11, x12] cs).map encS), var g1 [.int .i64 x0, .int .i64 x1, .int .i64 x2, .int .i64 x3, .int .i64 x4, .int .i64 x5, .int .i64 x6, .int .i64 x7, .int .i64 x8, .int .i64 x9, .int .i64 x10, .int .i64 x11, .int .i64 x12, cv] 26] rfl (RoOk.ro 0 rfl [] rfl (RoOk.ro 1 rfl [] rfl RoOk.nil))) rfl ?_
    rintro _ _ ⟨_, ⟨rfl, rfl⟩, rfl⟩
    refine O.p (Pu.move rfl) rfl ?_
    refine O.p (Pu.extract rfl rfl) rfl ?_
    refine O.p (Pu.extract rfl rfl) rfl ?_
    refine O.l (Lo.alloc [.int .i64 0, .int .i64 0, .int .i64 0, .int .i64 0, .int .i64 0, .int .i64 0, .int .i64 0, .int .i64 0, .int .i64 0, .int .i64 0, .int .i64 0, .int .i64 0, .int .i64 0, Value.slice none 0 0] (by exact Tryd.zeroValue26) rfl) rfl ?_
    rintro _ _ ⟨g10, rfl, rfl⟩
    refine O.l0 (Lo.store 0 (vs := [.int .i64 x0, .int .i64 x1, .int .i64 x2, .int .i64 x3, .int .i64 x4, .int .i64 x5, .int .i64 x6, .int .i64 x7, .int .i64 x8, .int .i64 x9, .int .i64 x10, .int .i64 x11, .int .i64 x12, Value.slice none 0 0]) [.int .i64 x0, .int .i64 x1, .int .i64 x2, .int .i64 x3, .int .i64 x4, .int .i64 x5, .int .i64 x6, .int .i64 x7, .int .i64 x8, .int .i64 x9, .int .i64 x10, .int .i64 x11, .int .i64 x12, Value.slice none 0 0] rfl rfl rfl (by exact Tryd.sizeOf26) rfl rfl rfl rfl rfl) ?_
    rintro _ _ rfl
    refine O.p (Pu.assign rfl) rfl ?_
    refine O.nil ?_
    refine J.seq ?_
    refine J.seq ?_
    refine J.nilRow 38 4 ?_
    show J _ _ _ [row (Value.slice none 0 0) 38 4 (([] : List Cl).map Cl.cells), var g10 [.int .i64 x0, .int .i64 x1, .int .i64 x2, .int .i64 x3, .int .i64 x4, .int .i64 x5, .int .i64 x6, .int .i64 x7, .int .i64 x8, .int .i64 x9, .int .i64 x10, .int .i64 x11, .int .i64 x12, Value.slice none 0 0] 26, row v7 9 1 ((Cf.lines [x0, x1, x2, x3, x4, x5, x6, x7, x8, x9, x10, x11, x12] cs).map encS), var g1 [.int .i64 x0, .int .i64 x1, .int .i64 x2, .int .i64 x3, .int .i64 x4, .int .i64 x5, .int .i64 x6, .int .i64 x7, .int .i64 x8, .int .i64 x9, .int .i64 x10, .int .i64 x11, .int .i64 x12, cv] 26]
    refine J.region ?_
    refine O.p (Pu.move rfl) rfl ?_
    refine O.p (Pu.not rfl) rfl ?_
    refine O.p (Pu.move rfl) rfl ?_
    refine O.gq (t := 34) rfl rfl rfl rfl (Pu.qt (Pu.fieldAddr (off' := 13) Tryd.runUnderlying26 rfl Tryd.sizeOf24 rfl rfl rfl)) rfl ?_
    refine O.gq (t := 34) rfl rfl rfl rfl (Qt.ld rfl (Cel.var 1 rfl) (o := 0) (off := 13) rfl (Cut.one Tryd.isAgg24 rfl)) rfl ?_
    refine O.gq (t := 34) rfl rfl rfl rfl (Qt.lenM Tryd.runUnderlying24 rfl (Src.row 0 rfl)) rfl ?_
    refine O.gq (t := 34) rfl rfl rfl rfl (Pu.qt (Pu.gtr rfl rfl)) rfl ?_
    refine O.p (Pu.pickF rfl rfl rfl) rfl ?_
    refine O.nil ?_
    refine J.condF rfl rfl ?_
    refine J.skip ?_
    refine J.seq ?_
    refine J.seq ?_
    refine J.region ?_
    refine O.p (Pu.assign rfl) rfl ?_
    refine O.nil ?_
    refine J.block ?_
    refine J.loop (X := Nat × Value × List Cl) (fun ξ => ξ.1 ≤ cs.length ∧ ξ.2.2 = cs.take ξ.1) (fun ξ => [(1, .pointer (some ⟨g1, 0, none⟩)), (3, v7), (4, .pointer (some ⟨g10, 0, none⟩)), (6, .int .i64 ((ξ.1 : Int) + 1))]) (fun ξ => [row ξ.2.1 38 4 (ξ.2.2.map Cl.cells), row v7 9 1 ((Cf.lines [x0, x1, x2, x3, x4, x5, x6, x7, x8, x9, x10, x11, x12] cs).map encS), var g10 [.int .i64 x0, .int .i64 x1, .int .i64 x2, .int .i64 x3, .int .i64 x4, .int .i64 x5, .int .i64 x6, .int .i64 x7, .int .i64 x8, .int .i64 x9, .int .i64 x10, .int .i64 x11, .int .i64 x12, ξ.2.1] 26, var g1 [.int .i64 x0, .int .i64 x1, .int .i64 x2, .int .i64 x3, .int .i64 x4, .int .i64 x5, .int .i64 x6, .int .i64 x7, .int .i64 x8, .int .i64 x9, .int .i64 x10, .int .i64 x11, .int .i64 x12, cv] 26]) (fun ξ => cs.length - ξ.1) ⟨0, Value.slice none 0 0, []⟩ (show 0 ≤ cs.length ∧ ([]) = cs.take 0 from ⟨by omega, rfl⟩) ⟨rfl, rfl, rfl, (congrArg (fun z => some (Value.int .i64 z)) (by first | rfl | omega : (1 : Int) = (0 : Int) + 1)), trivial⟩ [0, 2, 1, 3] (by decide) rfl ?_
    rintro ⟨k, V, out⟩ hq11
    obtain ⟨hk, hout⟩ : k ≤ cs.length ∧ out = cs.take k := hq11
    show J _ _ [(1, .pointer (some ⟨g1, 0, none⟩)), (3, v7), (4, .pointer (some ⟨g10, 0, none⟩)), (6, .int .i64 ((k : Int) + 1))] [row V 38 4 (out.map Cl.cells), row v7 9 1 ((Cf.lines [x0, x1, x2, x3, x4, x5, x6, x7, x8, x9, x10, x11, x12] cs).map encS), var g10 [.int .i64 x0, .int .i64 x1, .int .i64 x2, .int .i64 x3, .int .i64 x4, .int .i64 x5, .int .i64 x6, .int .i64 x7, .int .i64 x8, .int .i64 x9, .int .i64 x10, .int .i64 x11, .int .i64 x12, V] 26, var g1 [.int .i64 x0, .int .i64 x1, .int .i64 x2, .int .i64 x3, .int .i64 x4, .int .i64 x5, .int .i64 x6, .int .i64 x7, .int .i64 x8, .int .i64 x9, .int .i64 x10, .int .i64 x11, .int .i64 x12, cv] 26]
    refine J.seq ?_
    refine J.seq ?_
    refine J.region ?_
    refine O.p (Pu.move rfl) rfl ?_
    refine O.p (Pu.move rfl) rfl ?_
    refine O.q (Qt.lenM Tryd.runUnderlying27 rfl (Src.row 1 rfl)) rfl ?_
    refine O.p (Pu.lss rfl rfl) rfl ?_
    refine O.nil ?_
    refine J.cond rfl (fun h12 => ?_) (fun h12 => ?_)
    ·
      have p13 := of_decide_eq_true h12
      refine J.skip ?_
      refine J.seq ?_
      refine J.block ?_
      refine J.seq ?_
      refine J.region ?_
      refine O.p (Pu.move rfl) rfl ?_
      refine O.p (Pu.move rfl) rfl ?_
      obtain ⟨e14, he14⟩ : ∃ x_, (Cf.lines [x0, x1, x2, x3, x4, x5, x6, x7, x8, x9, x10, x11, x12] cs)[(k + 1)]? = some x_ := ⟨_, List.getElem?_eq_getElem (by first | omega | (rw [Cf.lines_len]; omega) | (rw [Cf.lines_len] at *; omega) | (have ho_ := congrArg List.length hout; rw [List.length_take] at ho_; simp only [List.length_append, List.length_cons, List.length_nil]; omega))⟩
      refine O.q (Qt.idxM Tryd.runUnderlying27 Tryd.sizeOf9 rfl (Src.row 1 rfl) rfl (by first | omega | (rw [Cf.lines_len]; omega) | (rw [Cf.lines_len] at *; omega) | (have ho_ := congrArg List.length hout; rw [List.length_take] at ho_; simp only [List.length_append, List.length_cons, List.length_nil]; omega)) (by first | omega | (rw [Cf.lines_len]; omega) | (rw [Cf.lines_len] at *; omega) | (have ho_ := congrArg List.length hout; rw [List.length_take] at ho_; simp only [List.length_append, List.length_cons, List.length_nil]; omega))) rfl ?_
      refine O.q (Qt.ld rfl (Cel.eltM (Src.row 1 rfl) he14) (o := (voff v7 + (k + 1) * 1)) (off := 0) (by omega) (Cut.one Tryd.isAgg9 rfl)) rfl ?_
      refine O.l (Lo.call [str e14] (by exact Tryd.call12) rfl (cf_Call_back e14 [x0, x1, x2, x3, x4, x5, x6, x7, x8, x9, x10, x11, x12] cs k he14 hC) [] [0, 1, 2, 3] (by decide) rfl [row V 38 4 (out.map Cl.cells), row v7 9 1 ((Cf.lines [x0, x1, x2, x3, x4, x5, x6, x7, x8, x9, x10, x11, x12] cs).map encS), var g10 [.int .i64 x0, .int .i64 x1, .int .i64 x2, .int .i64 x3, .int .i64 x4, .int .i64 x5, .int .i64 x6, .int .i64 x7, .int .i64 x8, .int .i64 x9, .int .i64 x10, .int .i64 x11, .int .i64 x12, V] 26, var g1 [.int .i64 x0, .int .i64 x1, .int .i64 x2, .int .i64 x3, .int .i64 x4, .int .i64 x5, .int .i64 x6, .int .i64 x7, .int .i64 x8, .int .i64 x9, .int .i64 x10, .int .i64 x11, .int .i64 x12, cv] 26] rfl (RoOk.ro 0 rfl [] rfl RoOk.nil)) rfl ?_
      rintro _ _ ⟨_, ⟨c15, hc16, rfl, rfl⟩, rfl⟩
      refine O.p (Pu.move rfl) rfl ?_
      refine O.p (Pu.extract rfl rfl) rfl ?_
      refine O.p (Pu.extract rfl rfl) rfl ?_
      refine O.l (Lo.alloc [.int .i64 0, .int .i64 0, .int .i64 0, .int .i64 0] (by exact Tryd.zeroValue38) rfl) rfl ?_
      rintro _ _ ⟨g18, rfl, rfl⟩
      refine O.l0 (Lo.store 0 (vs := [.int .i64 c15.to, .int .i64 c15.tier, .int .i64 c15.weight, .int .i64 c15.most]) [.int .i64 c15.to, .int .i64 c15.tier, .int .i64 c15.weight, .int .i64 c15.most] rfl rfl rfl (by exact Tryd.sizeOf38) rfl rfl rfl rfl rfl) ?_
      rintro _ _ rfl
      refine O.p (Pu.assign rfl) rfl ?_
      refine O.nil ?_
      refine J.seq ?_
      refine J.seq ?_
      refine J.region ?_
      refine O.p (Pu.move rfl) rfl ?_
      refine O.p (Pu.move rfl) rfl ?_
      refine O.q (Qt.idxM Tryd.runUnderlying27 Tryd.sizeOf9 rfl (Src.row 2 rfl) rfl (by first | omega | (rw [Cf.lines_len]; omega) | (rw [Cf.lines_len] at *; omega) | (have ho_ := congrArg List.length hout; rw [List.length_take] at ho_; simp only [List.length_append, List.length_cons, List.length_nil]; omega)) (by first | omega | (rw [Cf.lines_len]; omega) | (rw [Cf.lines_len] at *; omega) | (have ho_ := congrArg List.length hout; rw [List.length_take] at ho_; simp only [List.length_append, List.length_cons, List.length_nil]; omega))) rfl ?_
      refine O.q (Qt.ld rfl (Cel.eltM (Src.row 2 rfl) he14) (o := (voff v7 + (k + 1) * 1)) (off := 0) (by omega) (Cut.one Tryd.isAgg9 rfl)) rfl ?_
      refine O.l (Lo.call [str e14] (by exact Tryd.call10) rfl (cf_Head e14 (by have h_ := Cf.lines_le hI hC _ (List.mem_of_getElem? (by assumption)); omega)) [] [0, 1, 2, 3, 4] (by decide) rfl [var g18 [.int .i64 c15.to, .int .i64 c15.tier, .int .i64 c15.weight, .int .i64 c15.most] 38, row V 38 4 (out.map Cl.cells), row v7 9 1 ((Cf.lines [x0, x1, x2, x3, x4, x5, x6, x7, x8, x9, x10, x11, x12] cs).map encS), var g10 [.int .i64 x0, .int .i64 x1, .int .i64 x2, .int .i64 x3, .int .i64 x4, .int .i64 x5, .int .i64 x6, .int .i64 x7, .int .i64 x8, .int .i64 x9, .int .i64 x10, .int .i64 x11, .int .i64 x12, V] 26, var g1 [.int .i64 x0, .int .i64 x1, .int .i64 x2, .int .i64 x3, .int .i64 x4, .int .i64 x5, .int .i64 x6, .int .i64 x7, .int .i64 x8, .int .i64 x9, .int .i64 x10, .int .i64 x11, .int .i64 x12, cv] 26] rfl (RoOk.ro 0 rfl [] rfl (RoOk.ro 1 rfl [] rfl RoOk.nil))) rfl ?_
      rintro _ _ ⟨_, ⟨z19, z20, z21, z22, z23, z24, z25, z26, z27, z28, z29, z30, z31, hz32, rfl, rfl⟩, rfl⟩
      refine O.p (Pu.move rfl) rfl ?_
      refine O.p (Pu.extract rfl rfl) rfl ?_
      refine O.p (Pu.extract rfl rfl) rfl ?_
      refine O.l (Lo.alloc [.int .i64 0, .int .i64 0, .int .i64 0, .int .i64 0, .int .i64 0, .int .i64 0, .int .i64 0, .int .i64 0, .int .i64 0, .int .i64 0, .int .i64 0, .int .i64 0, .int .i64 0, Value.slice none 0 0] (by exact Tryd.zeroValue26) rfl) rfl ?_
      rintro _ _ ⟨g34, rfl, rfl⟩
      refine O.l0 (Lo.store 0 (vs := [.int .i64 z19, .int .i64 z20, .int .i64 z21, .int .i64 z22, .int .i64 z23, .int .i64 z24, .int .i64 z25, .int .i64 z26, .int .i64 z27, .int .i64 z28, .int .i64 z29, .int .i64 z30, .int .i64 z31, Value.slice none 0 0]) [.int .i64 z19, .int .i64 z20, .int .i64 z21, .int .i64 z22, .int .i64 z23, .int .i64 z24, .int .i64 z25, .int .i64 z26, .int .i64 z27, .int .i64 z28, .int .i64 z29, .int .i64 z30, .int .i64 z31, Value.slice none 0 0] rfl rfl rfl (by exact Tryd.sizeOf26) rfl rfl rfl rfl rfl) ?_
      rintro _ _ rfl
      refine O.p (Pu.assign rfl) rfl ?_
      refine O.nil ?_
      refine J.seq ?_
      refine J.region ?_
      refine O.p (Pu.move rfl) rfl ?_
      refine O.p (Pu.not rfl) rfl ?_
      refine O.p (Pu.move rfl) rfl ?_
      refine O.gq (t := 64) rfl rfl rfl rfl (Pu.qt (Pu.move rfl)) rfl ?_
      refine O.p (Pu.pickF rfl rfl rfl) rfl ?_
      refine O.nil ?_
      refine J.condF rfl (by obtain ⟨c_, _, h_⟩ := Cf.lines_kc (by assumption : (Cf.lines [x0, x1, x2, x3, x4, x5, x6, x7, x8, x9, x10, x11, x12] cs)[k + 1]? = some _); rw [h_, Cf.call_head]) ?_
      refine J.skip ?_
      refine J.region ?_
      refine O.p (Pu.fieldAddr (off' := 13) Tryd.runUnderlying26 rfl Tryd.sizeOf24 rfl rfl rfl) rfl ?_
      refine O.q (Qt.ld rfl (Cel.var 4 rfl) (o := 0) (off := 13) rfl (Cut.one Tryd.isAgg24 rfl)) rfl ?_
      refine O.q (Qt.ld rfl (Cel.var 1 rfl) (o := 0) (off := 0) rfl (Cut.agg [.int .i64 c15.to, .int .i64 c15.tier, .int .i64 c15.weight, .int .i64 c15.most] Tryd.isAgg38 Tryd.sizeOf38 rfl rfl)) rfl ?_
      refine O.l (Lo.buildM (s := 4) Cl.cells [c15] [(0, .agg #[.int .i64 c15.to, .int .i64 c15.tier, .int .i64 c15.weight, .int .i64 c15.most])] (by exact Tryd.runUnderlying24) (by exact Tryd.sizeOf38) (by exact Tryd.zeroValue38) rfl rfl rfl (by kernel_rfl) rfl rfl) rfl ?_
      rintro V35 _ rfl
      refine O.l (Lo.appendM (s := 4) 3 (by exact Tryd.underlying24) (by exact (info38).1) (by exact (info38).2.1) (by exact (info38).2.2.1) (by exact (info38).2.2.2) rfl rfl rfl rfl rfl (Src.row 0 rfl) Cl.one (by first | omega | (rw [Cf.lines_len]; omega) | (rw [Cf.lines_len] at *; omega) | (have ho_ := congrArg List.length hout; rw [List.length_take] at ho_; simp only [List.length_append, List.length_cons, List.length_nil]; omega)) (by first | omega | (rw [Cf.lines_len]; omega) | (rw [Cf.lines_len] at *; omega) | (have ho_ := congrArg List.length hout; rw [List.length_take] at ho_; simp only [List.length_append, List.length_cons, List.length_nil]; omega))) rfl ?_
      rintro V36 _ rfl
      refine O.p (Pu.fieldAddr (off' := 13) Tryd.runUnderlying26 rfl Tryd.sizeOf24 rfl rfl rfl) rfl ?_
      refine O.one (Src.row 3 rfl) (fun hV37 => ?_)
      refine O.l0 (Lo.store 5 (vs := [V36]) [.int .i64 x0, .int .i64 x1, .int .i64 x2, .int .i64 x3, .int .i64 x4, .int .i64 x5, .int .i64 x6, .int .i64 x7, .int .i64 x8, .int .i64 x9, .int .i64 x10, .int .i64 x11, .int .i64 x12, V36] rfl rfl rfl (by exact Tryd.sizeOf24) (one_cells hV37) rfl (one_all hV37) rfl rfl) ?_
      rintro _ _ rfl
      refine O.nil ?_
      refine J.blk ?_
      refine J.region ?_
      refine O.p (Pu.move rfl) rfl ?_
      refine O.p (Pu.add' rfl rfl (by first | omega | (have h_ := Cf.split_len cs; omega))) rfl ?_
      refine O.p (Pu.assign rfl) rfl ?_
      refine O.nil ?_
      exact J.lp ⟨k + 1, V36, out ++ ([c15])⟩ (show (k + 1) ≤ cs.length ∧ (out ++ ([c15])) = cs.take (k + 1) from ⟨by rw [Cf.lines_len] at *; omega, (by rw [hout]; exact Cf.take_next (by assumption))⟩) (show cs.length - (k + 1) < cs.length - k from (by first | omega | (rw [Cf.lines_len]; omega) | (rw [Cf.lines_len] at *; omega) | (have ho_ := congrArg List.length hout; rw [List.length_take] at ho_; simp only [List.length_append, List.length_cons, List.length_nil]; omega))) ⟨rfl, rfl, rfl, (congrArg (fun z => some (Value.int .i64 z)) (by first | rfl | omega : (((k : Int) + 1) + 1 : Int) = ((k + 1) : Int) + 1)), trivial⟩ [3, 4, 5, 6] (by decide) rfl
    ·
      have p38 := of_decide_eq_false h12
      refine J.exit _ rfl ?_
      refine J.seq ?_
      refine J.drawMix [(0, false), (1, false), (2, true), (3, false), (4, false), (7, false), (11, false), (12, false), (13, false), (5, true), (6, false), (8, true), (9, false), (10, false), (14, false), (15, false), (16, false), (17, true), (18, false), (19, false)] [2, 3] [var g10 [.int .i64 x0, .int .i64 x1, .int .i64 x2, .int .i64 x3, .int .i64 x4, .int .i64 x5, .int .i64 x6, .int .i64 x7, .int .i64 x8, .int .i64 x9, .int .i64 x10, .int .i64 x11, .int .i64 x12, V] 26, var g1 [.int .i64 x0, .int .i64 x1, .int .i64 x2, .int .i64 x3, .int .i64 x4, .int .i64 x5, .int .i64 x6, .int .i64 x7, .int .i64 x8, .int .i64 x9, .int .i64 x10, .int .i64 x11, .int .i64 x12, cv] 26] Tryd.mixed (by kernel_rfl) (by decide) rfl ?_
      refine Mx.q rfl (Qt.ld rfl (Cel.var 0 rfl) (o := 0) (off := 0) rfl (Cut.agg [.int .i64 x0, .int .i64 x1, .int .i64 x2, .int .i64 x3, .int .i64 x4, .int .i64 x5, .int .i64 x6, .int .i64 x7, .int .i64 x8, .int .i64 x9, .int .i64 x10, .int .i64 x11, .int .i64 x12, V] Tryd.isAgg26 Tryd.sizeOf26 rfl rfl)) rfl ?_
      refine Mx.q rfl (Qt.ld rfl (Cel.var 1 rfl) (o := 0) (off := 0) rfl (Cut.agg [.int .i64 x0, .int .i64 x1, .int .i64 x2, .int .i64 x3, .int .i64 x4, .int .i64 x5, .int .i64 x6, .int .i64 x7, .int .i64 x8, .int .i64 x9, .int .i64 x10, .int .i64 x11, .int .i64 x12, cv] Tryd.isAgg26 Tryd.sizeOf26 rfl rfl)) rfl ?_
      refine Mx.l rfl (Lo.call [.agg #[.int .i64 x0, .int .i64 x1, .int .i64 x2, .int .i64 x3, .int .i64 x4, .int .i64 x5, .int .i64 x6, .int .i64 x7, .int .i64 x8, .int .i64 x9, .int .i64 x10, .int .i64 x11, .int .i64 x12, V], .agg #[.int .i64 x0, .int .i64 x1, .int .i64 x2, .int .i64 x3, .int .i64 x4, .int .i64 x5, .int .i64 x6, .int .i64 x7, .int .i64 x8, .int .i64 x9, .int .i64 x10, .int .i64 x11, .int .i64 x12, cv]] (by exact Tryd.call20) rfl (r28_Same x0 x1 x2 x3 x4 x5 x6 x7 x8 x9 x10 x11 x12 x0 x1 x2 x3 x4 x5 x6 x7 x8 x9 x10 x11 x12 V cv out cs (by first | omega | (have ho_ := congrArg List.length hout; rw [List.length_take] at ho_; omega)) (by first | omega | (have ho_ := congrArg List.length hout; rw [List.length_take] at ho_; omega))) [] [0, 1, 2, 3] (by decide) rfl [row V 38 4 (out.map Cl.cells), row v7 9 1 ((Cf.lines [x0, x1, x2, x3, x4, x5, x6, x7, x8, x9, x10, x11, x12] cs).map encS), var g10 [.int .i64 x0, .int .i64 x1, .int .i64 x2, .int .i64 x3, .int .i64 x4, .int .i64 x5, .int .i64 x6, .int .i64 x7, .int .i64 x8, .int .i64 x9, .int .i64 x10, .int .i64 x11, .int .i64 x12, V] 26, var g1 [.int .i64 x0, .int .i64 x1, .int .i64 x2, .int .i64 x3, .int .i64 x4, .int .i64 x5, .int .i64 x6, .int .i64 x7, .int .i64 x8, .int .i64 x9, .int .i64 x10, .int .i64 x11, .int .i64 x12, cv] 26] rfl (RoOk.of 0 rfl row_rd [] (by decide) rfl (RoOk.ro 2 rfl [] rfl RoOk.nil))) rfl ?_
      rintro _ _ ⟨_, ⟨rfl, rfl⟩, rfl⟩
      refine MxK.all [2, 3] [var g10 [.int .i64 x0, .int .i64 x1, .int .i64 x2, .int .i64 x3, .int .i64 x4, .int .i64 x5, .int .i64 x6, .int .i64 x7, .int .i64 x8, .int .i64 x9, .int .i64 x10, .int .i64 x11, .int .i64 x12, V] 26, var g1 [.int .i64 x0, .int .i64 x1, .int .i64 x2, .int .i64 x3, .int .i64 x4, .int .i64 x5, .int .i64 x6, .int .i64 x7, .int .i64 x8, .int .i64 x9, .int .i64 x10, .int .i64 x11, .int .i64 x12, cv] 26] (by decide) rfl (by kernel_rfl) ?_
      refine Mx.p rfl (Pu.move rfl) rfl ?_
      refine Mx.gq (t := 76) rfl rfl rfl (by rw [hout, List.take_of_length_le (by rw [Cf.lines_len] at *; omega), Cf.sameI_self, Cf.sameC_self]; rfl) rfl (Qt.ld rfl (Cel.var 1 rfl) (o := 0) (off := 0) rfl (Cut.agg [.int .i64 x0, .int .i64 x1, .int .i64 x2, .int .i64 x3, .int .i64 x4, .int .i64 x5, .int .i64 x6, .int .i64 x7, .int .i64 x8, .int .i64 x9, .int .i64 x10, .int .i64 x11, .int .i64 x12, cv] Tryd.isAgg26 Tryd.sizeOf26 rfl rfl)) rfl ?_
      refine Mx.gq (t := 76) rfl rfl rfl (by rw [hout, List.take_of_length_le (by rw [Cf.lines_len] at *; omega), Cf.sameI_self, Cf.sameC_self]; rfl) rfl (Qt.ld rfl (Cel.var 1 rfl) (o := 0) (off := 0) rfl (Cut.agg [.int .i64 x0, .int .i64 x1, .int .i64 x2, .int .i64 x3, .int .i64 x4, .int .i64 x5, .int .i64 x6, .int .i64 x7, .int .i64 x8, .int .i64 x9, .int .i64 x10, .int .i64 x11, .int .i64 x12, cv] Tryd.isAgg26 Tryd.sizeOf26 rfl rfl)) rfl ?_
      refine Mx.gq (t := 76) rfl rfl rfl (by rw [hout, List.take_of_length_le (by rw [Cf.lines_len] at *; omega), Cf.sameI_self, Cf.sameC_self]; rfl) rfl (Pu.qt (Pu.fieldAddr (off' := 13) Tryd.runUnderlying26 rfl Tryd.sizeOf24 rfl rfl rfl)) rfl ?_
      refine Mx.gq (t := 76) rfl rfl rfl (by rw [hout, List.take_of_length_le (by rw [Cf.lines_len] at *; omega), Cf.sameI_self, Cf.sameC_self]; rfl) rfl (Qt.ld rfl (Cel.var 1 rfl) (o := 0) (off := 13) rfl (Cut.one Tryd.isAgg24 rfl)) rfl ?_
      refine Mx.gq (t := 76) rfl rfl rfl (by rw [hout, List.take_of_length_le (by rw [Cf.lines_len] at *; omega), Cf.sameI_self, Cf.sameC_self]; rfl) rfl (Qt.lenM Tryd.runUnderlying24 rfl (Src.ro 2 rfl)) rfl ?_
      refine Mx.gl (t := 76) rfl rfl rfl (by rw [hout, List.take_of_length_le (by rw [Cf.lines_len] at *; omega), Cf.sameI_self, Cf.sameC_self]; rfl) rfl (Lo.call [.agg #[.int .i64 x0, .int .i64 x1, .int .i64 x2, .int .i64 x3, .int .i64 x4, .int .i64 x5, .int .i64 x6, .int .i64 x7, .int .i64 x8, .int .i64 x9, .int .i64 x10, .int .i64 x11, .int .i64 x12, cv]] (by exact Tryd.call21) rfl (cf_Required x0 x1 x2 x3 x4 x5 x6 x7 x8 x9 x10 x11 x12 cv cs (by omega)) [] [0, 1, 2, 3] (by decide) rfl [row V 38 4 (out.map Cl.cells), row v7 9 1 ((Cf.lines [x0, x1, x2, x3, x4, x5, x6, x7, x8, x9, x10, x11, x12] cs).map encS), var g10 [.int .i64 x0, .int .i64 x1, .int .i64 x2, .int .i64 x3, .int .i64 x4, .int .i64 x5, .int .i64 x6, .int .i64 x7, .int .i64 x8, .int .i64 x9, .int .i64 x10, .int .i64 x11, .int .i64 x12, V] 26, var g1 [.int .i64 x0, .int .i64 x1, .int .i64 x2, .int .i64 x3, .int .i64 x4, .int .i64 x5, .int .i64 x6, .int .i64 x7, .int .i64 x8, .int .i64 x9, .int .i64 x10, .int .i64 x11, .int .i64 x12, cv] 26] rfl (RoOk.ro 2 rfl [] rfl RoOk.nil)) rfl ?_
      rintro v40 _ ⟨_, rfl, rfl⟩
      refine MxK.go [0, 3, 4] [1, 2] [row v40 38 4 ((cs.filter (fun c => decide (c.tier = 0))).map Cl.cells), var g10 [.int .i64 x0, .int .i64 x1, .int .i64 x2, .int .i64 x3, .int .i64 x4, .int .i64 x5, .int .i64 x6, .int .i64 x7, .int .i64 x8, .int .i64 x9, .int .i64 x10, .int .i64 x11, .int .i64 x12, V] 26, var g1 [.int .i64 x0, .int .i64 x1, .int .i64 x2, .int .i64 x3, .int .i64 x4, .int .i64 x5, .int .i64 x6, .int .i64 x7, .int .i64 x8, .int .i64 x9, .int .i64 x10, .int .i64 x11, .int .i64 x12, cv] 26] (by decide) rfl (by decide) rfl ?_
      refine Mx.gq (t := 76) rfl rfl rfl (by rw [hout, List.take_of_length_le (by rw [Cf.lines_len] at *; omega), Cf.sameI_self, Cf.sameC_self]; rfl) rfl (Qt.lenM Tryd.runUnderlying24 rfl (Src.row 0 rfl)) rfl ?_
      refine Mx.gl (t := 76) rfl rfl rfl (by rw [hout, List.take_of_length_le (by rw [Cf.lines_len] at *; omega), Cf.sameI_self, Cf.sameC_self]; rfl) rfl (Lo.call [.agg #[.int .i64 x0, .int .i64 x1, .int .i64 x2, .int .i64 x3, .int .i64 x4, .int .i64 x5, .int .i64 x6, .int .i64 x7, .int .i64 x8, .int .i64 x9, .int .i64 x10, .int .i64 x11, .int .i64 x12, cv]] (by exact Tryd.call22) rfl (cf_Optional x0 x1 x2 x3 x4 x5 x6 x7 x8 x9 x10 x11 x12 cv cs (by omega)) [] [0, 1, 2, 3, 4] (by decide) rfl [row v40 38 4 ((cs.filter (fun c => decide (c.tier = 0))).map Cl.cells), row V 38 4 (out.map Cl.cells), row v7 9 1 ((Cf.lines [x0, x1, x2, x3, x4, x5, x6, x7, x8, x9, x10, x11, x12] cs).map encS), var g10 [.int .i64 x0, .int .i64 x1, .int .i64 x2, .int .i64 x3, .int .i64 x4, .int .i64 x5, .int .i64 x6, .int .i64 x7, .int .i64 x8, .int .i64 x9, .int .i64 x10, .int .i64 x11, .int .i64 x12, V] 26, var g1 [.int .i64 x0, .int .i64 x1, .int .i64 x2, .int .i64 x3, .int .i64 x4, .int .i64 x5, .int .i64 x6, .int .i64 x7, .int .i64 x8, .int .i64 x9, .int .i64 x10, .int .i64 x11, .int .i64 x12, cv] 26] rfl (RoOk.ro 2 rfl [] rfl RoOk.nil)) rfl ?_
      rintro v41 _ ⟨_, rfl, rfl⟩
      refine MxK.go [0, 1, 4, 5] [1, 2, 3] [row v41 38 4 ((cs.filter (fun c => decide (c.tier ≠ 0))).map Cl.cells), row v40 38 4 ((cs.filter (fun c => decide (c.tier = 0))).map Cl.cells), var g10 [.int .i64 x0, .int .i64 x1, .int .i64 x2, .int .i64 x3, .int .i64 x4, .int .i64 x5, .int .i64 x6, .int .i64 x7, .int .i64 x8, .int .i64 x9, .int .i64 x10, .int .i64 x11, .int .i64 x12, V] 26, var g1 [.int .i64 x0, .int .i64 x1, .int .i64 x2, .int .i64 x3, .int .i64 x4, .int .i64 x5, .int .i64 x6, .int .i64 x7, .int .i64 x8, .int .i64 x9, .int .i64 x10, .int .i64 x11, .int .i64 x12, cv] 26] (by decide) rfl (by decide) rfl ?_
      refine Mx.gq (t := 76) rfl rfl rfl (by rw [hout, List.take_of_length_le (by rw [Cf.lines_len] at *; omega), Cf.sameI_self, Cf.sameC_self]; rfl) rfl (Qt.lenM Tryd.runUnderlying24 rfl (Src.row 0 rfl)) rfl ?_
      refine Mx.gq (t := 76) rfl rfl rfl (by rw [hout, List.take_of_length_le (by rw [Cf.lines_len] at *; omega), Cf.sameI_self, Cf.sameC_self]; rfl) rfl (Pu.qt (Pu.add' rfl rfl (by first | omega | (have h_ := Cf.split_len cs; omega)))) rfl ?_
      refine Mx.gq (t := 76) rfl rfl rfl (by rw [hout, List.take_of_length_le (by rw [Cf.lines_len] at *; omega), Cf.sameI_self, Cf.sameC_self]; rfl) rfl (Pu.qt (Pu.eql rfl rfl)) rfl ?_
      refine Mx.p rfl (Pu.pickT rfl (by rw [hout, List.take_of_length_le (by rw [Cf.lines_len] at *; omega), Cf.sameI_self, Cf.sameC_self]; rfl) rfl) rfl ?_
      refine Mx.p rfl (Pu.move rfl) rfl ?_
      refine Mx.gl (t := 89) rfl rfl rfl (decide_eq_true (by have h_ := Cf.split_len cs; omega)) rfl (Lo.call [] (by exact Tryd.call7) rfl law28_awake [] [0, 1, 2, 3, 4, 5] (by decide) rfl [row v41 38 4 ((cs.filter (fun c => decide (c.tier ≠ 0))).map Cl.cells), row v40 38 4 ((cs.filter (fun c => decide (c.tier = 0))).map Cl.cells), row V 38 4 (out.map Cl.cells), row v7 9 1 ((Cf.lines [x0, x1, x2, x3, x4, x5, x6, x7, x8, x9, x10, x11, x12] cs).map encS), var g10 [.int .i64 x0, .int .i64 x1, .int .i64 x2, .int .i64 x3, .int .i64 x4, .int .i64 x5, .int .i64 x6, .int .i64 x7, .int .i64 x8, .int .i64 x9, .int .i64 x10, .int .i64 x11, .int .i64 x12, V] 26, var g1 [.int .i64 x0, .int .i64 x1, .int .i64 x2, .int .i64 x3, .int .i64 x4, .int .i64 x5, .int .i64 x6, .int .i64 x7, .int .i64 x8, .int .i64 x9, .int .i64 x10, .int .i64 x11, .int .i64 x12, cv] 26] rfl (RoOk.ro 0 rfl [] rfl (RoOk.ro 1 rfl [] rfl RoOk.nil))) rfl ?_
      rintro _ _ ⟨_, ⟨rfl, rfl⟩, rfl⟩
      refine MxK.go [0, 1, 4, 5] [0, 1, 2, 3] [row v41 38 4 ((cs.filter (fun c => decide (c.tier ≠ 0))).map Cl.cells), row v40 38 4 ((cs.filter (fun c => decide (c.tier = 0))).map Cl.cells), var g10 [.int .i64 x0, .int .i64 x1, .int .i64 x2, .int .i64 x3, .int .i64 x4, .int .i64 x5, .int .i64 x6, .int .i64 x7, .int .i64 x8, .int .i64 x9, .int .i64 x10, .int .i64 x11, .int .i64 x12, V] 26, var g1 [.int .i64 x0, .int .i64 x1, .int .i64 x2, .int .i64 x3, .int .i64 x4, .int .i64 x5, .int .i64 x6, .int .i64 x7, .int .i64 x8, .int .i64 x9, .int .i64 x10, .int .i64 x11, .int .i64 x12, cv] 26] (by decide) rfl (by decide) rfl ?_
      refine Mx.p rfl (Pu.pickT rfl (decide_eq_true (by have h_ := Cf.split_len cs; omega)) rfl) rfl ?_
      refine Mx.p rfl (Pu.assign rfl) rfl ?_
      refine Mx.nil ?_
      exact J.ret (Fin.ret (rs := [.tmp 2]) rfl [_] ⟨rfl, trivial⟩ [] (by decide) [] rfl ⟨rfl, rfl⟩)

end Go.Proofs.YtilcmkegbmppnaaDoor
