/-
  Several texts in one: GX1, GX2, GX3, GX4.
-/
import Derived.KernelRfl
import Derived.Test.YtnkhmbbnabejhaaVX1
import Derived.Test.YtnkhmbbnabejhaaGraphA
import Derived.Test.YtnkhmbbnabejhaaNumsA
namespace Go.Proofs.Ytnkhmbbnabejhaa
open Go Go.LK
set_option linter.unusedSimpArgs false

set_option maxRecDepth 100000 in
theorem s_Contains (sv : Value) (l : List Int) (x : Int) (hl : l.length ≤ 100000) : Tri Try.prog 68 #[sv, .int .i64 x] [rd sv 1 (l.map encZ)] [] (fun v L' => v = .bool (decide (x ∈ l)) ∧ L' = []) := by
  refine Tri.enter (args := [sv, .int .i64 x]) (body := _) 9 Try.func68 rfl Try.ntmps68 rfl ?_
  intro w0
  refine J.seq ?_
  refine J.region ?_
  refine O.p (Pu.assign rfl) rfl ?_
  refine O.nil ?_
  refine J.seq ?_
  refine J.region ?_
  refine O.p (Pu.move rfl) rfl ?_
  refine O.p (Pu.move rfl) rfl ?_
  refine O.l (Lo.call [sv, .int .i64 x] (by exact Try.call56) rfl (s_Index sv l x (by omega)) [] [] (by decide) rfl [] rfl (RoOk.ro 0 rfl [] rfl RoOk.nil)) rfl ?_
  rintro _ _ ⟨_, ⟨k1, rfl, hx2, rfl⟩, rfl⟩
  refine O.p (Pu.geq rfl rfl) rfl ?_
  refine O.p (Pu.assign rfl) rfl ?_
  refine O.nil ?_
  exact J.ret (Fin.ret (rs := [.tmp 4]) rfl [_] ⟨rfl, trivial⟩ [] (by decide) [] rfl ⟨(by simp only [vOf]; congr 1; rw [decide_eq_decide]; exact Jb.idx_mem hx2), rfl⟩)

set_option maxRecDepth 100000 in
theorem g_called (lv : Value) (l : List Sg) (f : Int) (hl : l.length ≤ 1000) (hc : ∀ s ∈ l, s.cl.length ≤ 1000) : Tri Try.prog 64 #[lv, .int .i64 f] [rd lv 14 (l.map Sg.cells), ros (l.map Sg.rd)] [] (fun v L' => L' = [row v 3 1 ((Gr.called (gOf l) f).map encZ)]) := by
  have hgl := gOf_len (l := l)
  refine Tri.enter (args := [lv, .int .i64 f]) (body := _) 51 Try.func64 rfl Try.ntmps64 rfl ?_
  intro w0
  refine J.seq ?_
  refine J.region ?_
  refine O.p (Pu.assign rfl) rfl ?_
  refine O.nil ?_
  refine J.seq ?_
  refine J.region ?_
  refine O.p (Pu.assign rfl) rfl ?_
  refine O.nil ?_
  refine J.seq ?_
  refine J.seq ?_
  refine J.region ?_
  refine O.p (Pu.move rfl) rfl ?_
  refine O.p (Pu.lss rfl rfl) rfl ?_
  refine O.p (Pu.move rfl) rfl ?_
  refine by_bool (decide (f < 0)) (fun h1 => ?_) (fun h1 => ?_)
  ·
    have p2 := of_decide_eq_true h1
    refine O.gskip (t := 10) rfl rfl (no_bool (by rw [h1]; decide)) rfl rfl ?_
    refine O.gskip (t := 10) rfl rfl (no_bool (by rw [h1]; decide)) rfl rfl ?_
    refine O.gskip (t := 10) rfl rfl (no_bool (by rw [h1]; decide)) rfl rfl ?_
    refine O.gskip (t := 10) rfl rfl (no_bool (by rw [h1]; decide)) rfl rfl ?_
    refine O.p (Pu.pickT rfl h1 rfl) rfl ?_
    refine O.nil ?_
    refine J.condT rfl rfl ?_
    refine J.seq ?_
    refine J.region ?_
    refine O.p (Pu.move rfl) rfl ?_
    refine O.p (Pu.assign rfl) rfl ?_
    refine O.nil ?_
    refine J.nilRow 3 1 ?_
    show J _ _ _ [row (Value.slice none 0 0) 3 1 (([] : List Int).map encZ)]
    exact J.ret (Fin.ret (rs := [.tmp 4]) rfl [_] ⟨rfl, trivial⟩ [0] (by decide) [row (Value.slice none 0 0) 3 1 (([] : List Int).map encZ)] rfl (congrArg (fun (z : List Int) => ([row (Value.slice none 0 0) 3 1 (z.map encZ)] : List Sp)) (show ([] : List Int) = Gr.called (gOf l) f from (Gr.called_out (by omega)).symm)))
  ·
    have p3 := of_decide_eq_false h1
    refine O.gq (t := 10) rfl rfl h1 rfl (Pu.qt (Pu.move rfl)) rfl ?_
    refine O.gq (t := 10) rfl rfl h1 rfl (Pu.qt (Pu.move rfl)) rfl ?_
    refine O.gq (t := 10) rfl rfl h1 rfl (Qt.lenM Try.runUnderlying70 rfl (Src.ro 0 rfl)) rfl ?_
    refine O.gq (t := 10) rfl rfl h1 rfl (Pu.qt (Pu.geq rfl rfl)) rfl ?_
    refine O.p (Pu.pickF rfl h1 rfl) rfl ?_
    refine O.nil ?_
    refine J.cond rfl (fun h4 => ?_) (fun h4 => ?_)
    ·
      have p5 := of_decide_eq_true h4
      refine J.seq ?_
      refine J.region ?_
      refine O.p (Pu.move rfl) rfl ?_
      refine O.p (Pu.assign rfl) rfl ?_
      refine O.nil ?_
      refine J.nilRow 3 1 ?_
      show J _ _ _ [row (Value.slice none 0 0) 3 1 (([] : List Int).map encZ)]
      exact J.ret (Fin.ret (rs := [.tmp 4]) rfl [_] ⟨rfl, trivial⟩ [0] (by decide) [row (Value.slice none 0 0) 3 1 (([] : List Int).map encZ)] rfl (congrArg (fun (z : List Int) => ([row (Value.slice none 0 0) 3 1 (z.map encZ)] : List Sp)) (show ([] : List Int) = Gr.called (gOf l) f from (Gr.called_out (by omega)).symm)))
    ·
      have p6 := of_decide_eq_false h4
      refine J.skip ?_
      refine J.seq ?_
      refine J.seq ?_
      obtain ⟨e7, he7⟩ : ∃ x_, l[(f).toNat]? = some x_ := ⟨_, List.getElem?_eq_getElem (by first | omega | (simp only [List.length_append, List.length_cons, List.length_nil]; omega))⟩
      refine J.ros 1 rfl (A := rd e7.cv 4 (e7.cl.map encT)) (List.mem_map.2 ⟨e7, List.mem_of_getElem? he7, rfl⟩) ?_
      have hcl := hc _ (List.mem_of_getElem? he7)
      refine J.region ?_
      refine O.p (Pu.move rfl) rfl ?_
      refine O.p (Pu.move rfl) rfl ?_
      refine O.q (Qt.idxM Try.runUnderlying70 Try.sizeOf104 rfl (Src.ro 0 rfl) rfl (by first | omega | (simp only [List.length_append, List.length_cons, List.length_nil]; omega)) (by first | omega | (simp only [List.length_append, List.length_cons, List.length_nil]; omega))) rfl ?_
      refine O.p (Pu.fieldAddr (off' := voff lv + (f).toNat * 14 + 13) Try.runUnderlying104 rfl Try.sizeOf102 rfl rfl rfl) rfl ?_
      refine O.q (Qt.ld rfl (Cel.eltM (Src.ro 0 rfl) he7) (o := (voff lv + ((f).toNat) * 14)) (off := 13) (by omega) (Cut.one Try.isAgg102 rfl)) rfl ?_
      refine O.q (Qt.lenM Try.runUnderlying102 rfl (Src.ro 2 rfl)) rfl ?_
      refine O.p (Pu.move rfl) rfl ?_
      refine O.nil ?_
      refine J.block ?_
      refine J.nilRow 3 1 ?_
      refine J.loop (X := Nat × Value × List Int) (fun ξ => ξ.1 ≤ e7.cl.length ∧ ξ.2.2 = Gr.calledK l.length e7.cl ξ.1 ∧ ξ.2.2.length ≤ ξ.1) (fun ξ => [(0, lv), (4, Value.slice none 0 0), (5, ξ.2.1), (21, e7.cv), (22, .int .i64 (e7.cl.length : Int)), (23, .int .i64 (ξ.1 : Int))]) (fun ξ => [row ξ.2.1 3 1 (ξ.2.2.map encZ)]) (fun ξ => e7.cl.length - ξ.1) ⟨0, Value.slice none 0 0, []⟩ (show 0 ≤ e7.cl.length ∧ ([]) = Gr.calledK l.length e7.cl 0 ∧ ([]).length ≤ 0 from ⟨by omega, rfl, by simp⟩) ⟨rfl, rfl, rfl, rfl, rfl, (congrArg (fun z => some (Value.int .i64 z)) (by first | rfl | omega : (0 : Int) = (0 : Int))), trivial⟩ [0] (by decide) rfl ?_
      rintro ⟨k, V, o⟩ hq8
      obtain ⟨hk, hst, hlen⟩ : k ≤ e7.cl.length ∧ o = Gr.calledK l.length e7.cl k ∧ o.length ≤ k := hq8
      show J _ _ [(0, lv), (4, Value.slice none 0 0), (5, V), (21, e7.cv), (22, .int .i64 (e7.cl.length : Int)), (23, .int .i64 (k : Int))] [row V 3 1 (o.map encZ)]
      refine J.seq ?_
      refine J.region ?_
      refine O.p (Pu.lss rfl rfl) rfl ?_
      refine O.nil ?_
      refine J.seq ?_
      refine J.cond rfl (fun h9 => ?_) (fun h9 => ?_)
      ·
        have p10 := of_decide_eq_true h9
        refine J.skip ?_
        refine J.seq ?_
        refine J.block ?_
        refine J.seq ?_
        refine J.region ?_
        obtain ⟨e11, he11⟩ : ∃ x_, e7.cl[k]? = some x_ := ⟨_, List.getElem?_eq_getElem (by first | omega | (simp only [List.length_append, List.length_cons, List.length_nil]; omega))⟩
        refine O.q (Qt.idxM Try.runUnderlying102 Try.sizeOf106 rfl (Src.ro 2 rfl) rfl (by first | omega | (simp only [List.length_append, List.length_cons, List.length_nil]; omega)) (by first | omega | (simp only [List.length_append, List.length_cons, List.length_nil]; omega))) rfl ?_
        refine O.q (Qt.ld rfl (Cel.eltM (Src.ro 2 rfl) he11) (o := (voff e7.cv + k * 4)) (off := 0) (by omega) (Cut.agg [.int .i64 e11, .int .i64 0, .int .i64 0, .int .i64 0] Try.isAgg106 Try.sizeOf106 rfl rfl)) rfl ?_
        refine O.l (Lo.alloc [.int .i64 0, .int .i64 0, .int .i64 0, .int .i64 0] (by exact Try.zeroValue106) rfl) rfl ?_
        rintro _ _ ⟨g12, rfl, rfl⟩
        refine O.l0 (Lo.store 0 (vs := [.int .i64 e11, .int .i64 0, .int .i64 0, .int .i64 0]) [.int .i64 e11, .int .i64 0, .int .i64 0, .int .i64 0] rfl rfl rfl (by exact Try.sizeOf106) rfl rfl rfl rfl rfl) ?_
        rintro _ _ rfl
        refine O.nil ?_
        refine J.seq ?_
        refine J.region ?_
        refine O.p (Pu.fieldAddr (off' := 0) Try.runUnderlying106 rfl Try.sizeOf3 rfl rfl rfl) rfl ?_
        refine O.q (Qt.ld rfl (Cel.var 0 rfl) (o := 0) (off := 0) rfl (Cut.one Try.isAgg3 rfl)) rfl ?_
        refine O.p (Pu.geq rfl rfl) rfl ?_
        refine O.p (Pu.move rfl) rfl ?_
        refine by_bool (decide (0 ≤ e11)) (fun h13 => ?_) (fun h13 => ?_)
        ·
          have p14 := of_decide_eq_true h13
          refine O.gq (t := 30) rfl rfl h13 rfl (Pu.qt (Pu.fieldAddr (off' := 0) Try.runUnderlying106 rfl Try.sizeOf3 rfl rfl rfl)) rfl ?_
          refine O.gq (t := 30) rfl rfl h13 rfl (Qt.ld rfl (Cel.var 0 rfl) (o := 0) (off := 0) rfl (Cut.one Try.isAgg3 rfl)) rfl ?_
          refine O.gq (t := 30) rfl rfl h13 rfl (Pu.qt (Pu.move rfl)) rfl ?_
          refine O.gq (t := 30) rfl rfl h13 rfl (Qt.lenM Try.runUnderlying70 rfl (Src.ro 0 rfl)) rfl ?_
          refine O.gq (t := 30) rfl rfl h13 rfl (Pu.qt (Pu.lss rfl rfl)) rfl ?_
          refine O.p (Pu.pickT rfl h13 rfl) rfl ?_
          refine O.p (Pu.move rfl) rfl ?_
          refine by_bool (decide (e11 < (l.length : Int))) (fun h15 => ?_) (fun h15 => ?_)
          ·
            have p16 := of_decide_eq_true h15
            refine O.gq (t := 37) rfl rfl h15 rfl (Pu.qt (Pu.move rfl)) rfl ?_
            refine O.gq (t := 37) rfl rfl h15 rfl (Pu.qt (Pu.fieldAddr (off' := 0) Try.runUnderlying106 rfl Try.sizeOf3 rfl rfl rfl)) rfl ?_
            refine O.gq (t := 37) rfl rfl h15 rfl (Qt.ld rfl (Cel.var 0 rfl) (o := 0) (off := 0) rfl (Cut.one Try.isAgg3 rfl)) rfl ?_
            refine O.gl (t := 37) rfl rfl h15 rfl (Lo.call [V, .int .i64 e11] (by exact Try.call68) rfl (s_Contains V o e11 (by omega)) [] [0, 1] (by decide) rfl [var g12 [.int .i64 e11, .int .i64 0, .int .i64 0, .int .i64 0] 106, row V 3 1 (o.map encZ)] rfl (RoOk.of 1 rfl row_rd [] (by decide) rfl RoOk.nil)) rfl ?_
            rintro _ _ ⟨_, ⟨rfl, rfl⟩, rfl⟩
            refine O.gq (t := 37) rfl rfl h15 rfl (Pu.qt (Pu.not rfl)) rfl ?_
            refine O.p (Pu.pickT rfl h15 rfl) rfl ?_
            refine O.nil ?_
            refine J.cond rfl (fun h18 => ?_) (fun h18 => ?_)
            ·
              have h19 : (decide (e11 ∈ o)) = false := not_flip h18
              have p20 := of_decide_eq_false h19
              refine J.region ?_
              refine O.p (Pu.move rfl) rfl ?_
              refine O.p (Pu.fieldAddr (off' := 0) Try.runUnderlying106 rfl Try.sizeOf3 rfl rfl rfl) rfl ?_
              refine O.q (Qt.ld rfl (Cel.var 0 rfl) (o := 0) (off := 0) rfl (Cut.one Try.isAgg3 rfl)) rfl ?_
              refine O.l (Lo.buildM (s := 1) encZ [e11] [(0, .int .i64 e11)] (by exact Try.runUnderlying24) (by exact Try.sizeOf3) (by exact Try.zeroValue3) rfl rfl rfl (by kernel_rfl) rfl rfl) rfl ?_
              rintro V21 _ rfl
              refine O.l (Lo.appendM (s := 1) 2 (by exact Try.underlying24) (by exact (info3).1) (by exact (info3).2.1) (by exact (info3).2.2.1) (by exact (info3).2.2.2) rfl rfl rfl rfl rfl (Src.row 0 rfl) encZ.one (by first | omega | (simp only [List.length_append, List.length_cons, List.length_nil]; omega)) (by first | omega | (simp only [List.length_append, List.length_cons, List.length_nil]; omega))) rfl ?_
              rintro V22 _ rfl
              refine O.p (Pu.assign rfl) rfl ?_
              refine O.nil ?_
              refine J.blk ?_
              refine J.region ?_
              refine O.p (Pu.add' rfl rfl (by first | omega | (simp only [List.length_append, List.length_cons, List.length_nil, List.length_set]; omega))) rfl ?_
              refine O.p (Pu.move rfl) rfl ?_
              refine O.nil ?_
              exact J.lp ⟨k + 1, V22, o ++ ([e11])⟩ (show (k + 1) ≤ e7.cl.length ∧ (o ++ ([e11])) = Gr.calledK l.length e7.cl (k + 1) ∧ (o ++ ([e11])).length ≤ (k + 1) from ⟨by omega, (by rw [hst]; first | exact (Gr.calledK_yes he11 (by omega) (by omega) (by rw [← hst]; assumption)).symm | exact (Gr.calledK_no he11 (fun h_ => by first | (have := h_.1; omega) | (have := h_.2.1; omega) | (rw [← hst] at h_; exact h_.2.2 (by assumption)))).symm), (by first | omega | (simp only [List.length_append, List.length_cons, List.length_nil]; omega))⟩) (show e7.cl.length - (k + 1) < e7.cl.length - k from (by first | omega | (simp only [List.length_append, List.length_cons, List.length_nil]; omega))) ⟨rfl, rfl, rfl, rfl, rfl, (congrArg (fun z => some (Value.int .i64 z)) (by first | rfl | omega : ((k : Int) + 1 : Int) = ((k + 1) : Int))), trivial⟩ [2] (by decide) rfl
            ·
              have h23 : (decide (e11 ∈ o)) = true := not_flip h18
              have p24 := of_decide_eq_true h23
              refine J.skip ?_
              refine J.blk ?_
              refine J.region ?_
              refine O.p (Pu.add' rfl rfl (by first | omega | (simp only [List.length_append, List.length_cons, List.length_nil, List.length_set]; omega))) rfl ?_
              refine O.p (Pu.move rfl) rfl ?_
              refine O.nil ?_
              exact J.lp ⟨k + 1, V, o⟩ (show (k + 1) ≤ e7.cl.length ∧ o = Gr.calledK l.length e7.cl (k + 1) ∧ o.length ≤ (k + 1) from ⟨by omega, (by rw [hst]; first | exact (Gr.calledK_yes he11 (by omega) (by omega) (by rw [← hst]; assumption)).symm | exact (Gr.calledK_no he11 (fun h_ => by first | (have := h_.1; omega) | (have := h_.2.1; omega) | (rw [← hst] at h_; exact h_.2.2 (by assumption)))).symm), (by first | omega | (simp only [List.length_append, List.length_cons, List.length_nil]; omega))⟩) (show e7.cl.length - (k + 1) < e7.cl.length - k from (by first | omega | (simp only [List.length_append, List.length_cons, List.length_nil]; omega))) ⟨rfl, rfl, rfl, rfl, rfl, (congrArg (fun z => some (Value.int .i64 z)) (by first | rfl | omega : ((k : Int) + 1 : Int) = ((k + 1) : Int))), trivial⟩ [1] (by decide) rfl
          ·
            have p25 := of_decide_eq_false h15
            refine O.gskip (t := 37) rfl rfl (no_bool (by rw [h15]; decide)) rfl rfl ?_
            refine O.gskip (t := 37) rfl rfl (no_bool (by rw [h15]; decide)) rfl rfl ?_
            refine O.gskip (t := 37) rfl rfl (no_bool (by rw [h15]; decide)) rfl rfl ?_
            refine O.gskip (t := 37) rfl rfl (no_bool (by rw [h15]; decide)) rfl rfl ?_
            refine O.gskip (t := 37) rfl rfl (no_bool (by rw [h15]; decide)) rfl rfl ?_
            refine O.p (Pu.pickF rfl h15 rfl) rfl ?_
            refine O.nil ?_
            refine J.condF rfl rfl ?_
            refine J.skip ?_
            refine J.blk ?_
            refine J.region ?_
            refine O.p (Pu.add' rfl rfl (by first | omega | (simp only [List.length_append, List.length_cons, List.length_nil, List.length_set]; omega))) rfl ?_
            refine O.p (Pu.move rfl) rfl ?_
            refine O.nil ?_
            exact J.lp ⟨k + 1, V, o⟩ (show (k + 1) ≤ e7.cl.length ∧ o = Gr.calledK l.length e7.cl (k + 1) ∧ o.length ≤ (k + 1) from ⟨by omega, (by rw [hst]; first | exact (Gr.calledK_yes he11 (by omega) (by omega) (by rw [← hst]; assumption)).symm | exact (Gr.calledK_no he11 (fun h_ => by first | (have := h_.1; omega) | (have := h_.2.1; omega) | (rw [← hst] at h_; exact h_.2.2 (by assumption)))).symm), (by first | omega | (simp only [List.length_append, List.length_cons, List.length_nil]; omega))⟩) (show e7.cl.length - (k + 1) < e7.cl.length - k from (by first | omega | (simp only [List.length_append, List.length_cons, List.length_nil]; omega))) ⟨rfl, rfl, rfl, rfl, rfl, (congrArg (fun z => some (Value.int .i64 z)) (by first | rfl | omega : ((k : Int) + 1 : Int) = ((k + 1) : Int))), trivial⟩ [1] (by decide) rfl
        ·
          have p26 := of_decide_eq_false h13
          refine O.gskip (t := 30) rfl rfl (no_bool (by rw [h13]; decide)) rfl rfl ?_
          refine O.gskip (t := 30) rfl rfl (no_bool (by rw [h13]; decide)) rfl rfl ?_
          refine O.gskip (t := 30) rfl rfl (no_bool (by rw [h13]; decide)) rfl rfl ?_
          refine O.gskip (t := 30) rfl rfl (no_bool (by rw [h13]; decide)) rfl rfl ?_
          refine O.gskip (t := 30) rfl rfl (no_bool (by rw [h13]; decide)) rfl rfl ?_
          refine O.p (Pu.pickF rfl h13 rfl) rfl ?_
          refine O.p (Pu.move rfl) rfl ?_
          refine O.gskip (t := 37) rfl rfl (no_bool (by decide)) rfl rfl ?_
          refine O.gskip (t := 37) rfl rfl (no_bool (by decide)) rfl rfl ?_
          refine O.gskip (t := 37) rfl rfl (no_bool (by decide)) rfl rfl ?_
          refine O.gskip (t := 37) rfl rfl (no_bool (by decide)) rfl rfl ?_
          refine O.gskip (t := 37) rfl rfl (no_bool (by decide)) rfl rfl ?_
          refine O.p (Pu.pickF rfl rfl rfl) rfl ?_
          refine O.nil ?_
          refine J.condF rfl rfl ?_
          refine J.skip ?_
          refine J.blk ?_
          refine J.region ?_
          refine O.p (Pu.add' rfl rfl (by first | omega | (simp only [List.length_append, List.length_cons, List.length_nil, List.length_set]; omega))) rfl ?_
          refine O.p (Pu.move rfl) rfl ?_
          refine O.nil ?_
          exact J.lp ⟨k + 1, V, o⟩ (show (k + 1) ≤ e7.cl.length ∧ o = Gr.calledK l.length e7.cl (k + 1) ∧ o.length ≤ (k + 1) from ⟨by omega, (by rw [hst]; first | exact (Gr.calledK_yes he11 (by omega) (by omega) (by rw [← hst]; assumption)).symm | exact (Gr.calledK_no he11 (fun h_ => by first | (have := h_.1; omega) | (have := h_.2.1; omega) | (rw [← hst] at h_; exact h_.2.2 (by assumption)))).symm), (by first | omega | (simp only [List.length_append, List.length_cons, List.length_nil]; omega))⟩) (show e7.cl.length - (k + 1) < e7.cl.length - k from (by first | omega | (simp only [List.length_append, List.length_cons, List.length_nil]; omega))) ⟨rfl, rfl, rfl, rfl, rfl, (congrArg (fun z => some (Value.int .i64 z)) (by first | rfl | omega : ((k : Int) + 1 : Int) = ((k + 1) : Int))), trivial⟩ [1] (by decide) rfl
      ·
        have p27 := of_decide_eq_false h9
        refine J.exit _ rfl ?_
        refine J.seq ?_
        refine J.region ?_
        refine O.p (Pu.move rfl) rfl ?_
        refine O.p (Pu.assign rfl) rfl ?_
        refine O.nil ?_
        exact J.ret (Fin.ret (rs := [.tmp 4]) rfl [_] ⟨rfl, trivial⟩ [0] (by decide) [row V 3 1 (o.map encZ)] rfl (congrArg (fun (z : List Int) => ([row V 3 1 (z.map encZ)] : List Sp)) (show o = Gr.called (gOf l) f from (by rw [hst]; have h_ := Gr.called_in (g := (gOf l)) (k := k) (cl := e7.cl) (f := f) (by omega) (by omega) (gOf_at he7) (by omega); rw [hgl] at h_; exact h_))))

set_option maxRecDepth 100000 in
theorem g_waits (lv : Value) (l : List Sg) (hl : l.length ≤ 1000) (hc : ∀ s ∈ l, s.cl.length ≤ 1000) : Tri Try.prog 63 #[lv] [rd lv 14 (l.map Sg.cells), ros (l.map Sg.rd)] [] (fun v L' => L' = [row v 3 1 ((Gr.leftL (gOf l) []).map encZ)]) := by
  have hgl := gOf_len (l := l)
  refine Tri.enter (args := [lv]) (body := _) 32 Try.func63 rfl Try.ntmps63 rfl ?_
  intro w0
  refine J.seq ?_
  refine J.region ?_
  refine O.p (Pu.assign rfl) rfl ?_
  refine O.nil ?_
  refine J.seq ?_
  refine J.region ?_
  refine O.p (Pu.move rfl) rfl ?_
  refine O.q (Qt.lenM Try.runUnderlying70 rfl (Src.ro 0 rfl)) rfl ?_
  refine O.l (Lo.makeSliceN (z := (0 : Int)) (f := encZ) (m := l.length) (s := 1) (bytes := 8) (by exact Try.runUnderlying24) (fun w => run_typeInfo w (by exact (info3).1)) (by exact (info3).2.2.2) (by exact Try.sizeOf3) (by exact Try.zeroValue3) rfl rfl (by omega) (by omega) (by decide) rfl rfl (by decide) rfl) rfl ?_
  rintro V1 _ rfl
  refine O.p (Pu.assign rfl) rfl ?_
  refine O.nil ?_
  refine J.seq ?_
  refine J.seq ?_
  refine J.region ?_
  refine O.p (Pu.move rfl) rfl ?_
  refine O.q (Qt.lenM Try.runUnderlying70 rfl (Src.ro 0 rfl)) rfl ?_
  refine O.p (Pu.move rfl) rfl ?_
  refine O.nil ?_
  refine J.block ?_
  refine J.loop (X := Nat × List Int) (fun ξ => ξ.1 ≤ l.length ∧ ξ.2 = Gr.waitQ (gOf l) ξ.1 0) (fun ξ => [(0, lv), (2, Value.slice none 0 0), (3, V1), (11, .int .i64 (l.length : Int)), (12, .int .i64 (ξ.1 : Int))]) (fun ξ => [row V1 3 1 (ξ.2.map encZ)]) (fun ξ => l.length - ξ.1) ⟨0, List.replicate l.length (0 : Int)⟩ (show 0 ≤ l.length ∧ (List.replicate l.length (0 : Int)) = Gr.waitQ (gOf l) 0 0 from ⟨by omega, by rw [← hgl]; exact Gr.waitQ_zero⟩) ⟨rfl, rfl, rfl, rfl, (congrArg (fun z => some (Value.int .i64 z)) (by first | rfl | omega : (0 : Int) = (0 : Int))), trivial⟩ [0] (by decide) rfl ?_
  rintro ⟨k, w⟩ hq2
  obtain ⟨hk, hw⟩ : k ≤ l.length ∧ w = Gr.waitQ (gOf l) k 0 := hq2
  show J _ _ [(0, lv), (2, Value.slice none 0 0), (3, V1), (11, .int .i64 (l.length : Int)), (12, .int .i64 (k : Int))] [row V1 3 1 (w.map encZ)]
  refine J.seq ?_
  refine J.region ?_
  refine O.p (Pu.lss rfl rfl) rfl ?_
  refine O.nil ?_
  refine J.seq ?_
  refine J.cond rfl (fun h3 => ?_) (fun h3 => ?_)
  ·
    have p4 := of_decide_eq_true h3
    refine J.skip ?_
    refine J.seq ?_
    refine J.block ?_
    refine J.seq ?_
    refine J.region ?_
    refine O.p (Pu.move rfl) rfl ?_
    refine O.p (Pu.assign rfl) rfl ?_
    refine O.nil ?_
    refine J.seq ?_
    refine J.region ?_
    refine O.p (Pu.move rfl) rfl ?_
    refine O.p (Pu.move rfl) rfl ?_
    refine O.l (Lo.call [lv, .int .i64 (k : Int)] (by exact Try.call64) rfl (g_called lv l (k : Int) hl hc) [] [0] (by decide) rfl [row V1 3 1 (w.map encZ)] rfl (RoOk.ro 0 rfl [] rfl (RoOk.ro 1 rfl [] rfl RoOk.nil))) rfl ?_
    rintro v5 _ ⟨_, rfl, rfl⟩
    refine O.q (Qt.lenM Try.runUnderlying24 rfl (Src.row 0 rfl)) rfl ?_
    refine O.p (Pu.move rfl) rfl ?_
    refine O.nil ?_
    refine J.block ?_
    refine J.loop (X := Nat × List Int) (fun ξ => ξ.1 ≤ (Gr.called (gOf l) (k : Int)).length ∧ ξ.2 = Gr.waitQ (gOf l) k ξ.1) (fun ξ => [(0, lv), (2, Value.slice none 0 0), (3, V1), (11, .int .i64 (l.length : Int)), (12, .int .i64 (k : Int)), (17, v5), (18, .int .i64 ((Gr.called (gOf l) (k : Int)).length : Int)), (19, .int .i64 (ξ.1 : Int))]) (fun ξ => [row V1 3 1 (ξ.2.map encZ), row v5 3 1 ((Gr.called (gOf l) (k : Int)).map encZ)]) (fun ξ => (Gr.called (gOf l) (k : Int)).length - ξ.1) ⟨0, w⟩ (show 0 ≤ (Gr.called (gOf l) (k : Int)).length ∧ w = Gr.waitQ (gOf l) k 0 from ⟨by omega, hw⟩) ⟨rfl, rfl, rfl, rfl, rfl, rfl, rfl, (congrArg (fun z => some (Value.int .i64 z)) (by first | rfl | omega : (0 : Int) = (0 : Int))), trivial⟩ [1, 0] (by decide) rfl ?_
    rintro ⟨q, w2⟩ hq6
    obtain ⟨hq, hw2⟩ : q ≤ (Gr.called (gOf l) (k : Int)).length ∧ w2 = Gr.waitQ (gOf l) k q := hq6
    show J _ _ [(0, lv), (2, Value.slice none 0 0), (3, V1), (11, .int .i64 (l.length : Int)), (12, .int .i64 (k : Int)), (17, v5), (18, .int .i64 ((Gr.called (gOf l) (k : Int)).length : Int)), (19, .int .i64 (q : Int))] [row V1 3 1 (w2.map encZ), row v5 3 1 ((Gr.called (gOf l) (k : Int)).map encZ)]
    refine J.seq ?_
    refine J.region ?_
    refine O.p (Pu.lss rfl rfl) rfl ?_
    refine O.nil ?_
    refine J.seq ?_
    refine J.cond rfl (fun h7 => ?_) (fun h7 => ?_)
    ·
      have p8 := of_decide_eq_true h7
      refine J.skip ?_
      refine J.seq ?_
      refine J.block ?_
      refine J.seq ?_
      refine J.region ?_
      obtain ⟨e9, he9⟩ : ∃ x_, (Gr.called (gOf l) (k : Int))[q]? = some x_ := ⟨_, List.getElem?_eq_getElem (by omega)⟩
      refine O.q (Qt.idxM Try.runUnderlying24 Try.sizeOf3 rfl (Src.row 1 rfl) rfl (by omega) (by omega)) rfl ?_
      refine O.q (Qt.ld rfl (Cel.eltM (Src.row 1 rfl) he9) (o := (voff v5 + q * 1)) (off := 0) (by omega) (Cut.one Try.isAgg3 rfl)) rfl ?_
      refine O.p (Pu.assign rfl) rfl ?_
      refine O.nil ?_
      obtain ⟨jt, hjt, hjl⟩ := Gr.called_bnd he9
      have hwl : w2.length = l.length := by rw [hw2, Gr.waitQ_len, hgl]
      obtain ⟨e10, he10⟩ : ∃ x_, w2[(e9).toNat]? = some x_ := ⟨_, List.getElem?_eq_getElem (by omega)⟩
      refine J.region ?_
      refine O.p (Pu.move rfl) rfl ?_
      refine O.p (Pu.move rfl) rfl ?_
      refine O.q (Qt.idxM Try.runUnderlying24 Try.sizeOf3 rfl (Src.row 0 rfl) rfl (by omega) (by omega)) rfl ?_
      refine O.q (Qt.ld rfl (Cel.eltM (Src.row 0 rfl) he10) (o := (voff V1 + ((e9).toNat) * 1)) (off := 0) (by omega) (Cut.one Try.isAgg3 rfl)) rfl ?_
      refine O.p (Pu.add' rfl rfl (by first | omega | (have h_ := Gr.waitQ_bnd (g := (gOf l)) (i := k) (q := q) (by rw [← hw2]; assumption); omega) | (have h_ := Gr.called_len (g := (gOf l)) (f := (k : Int)); omega))) rfl ?_
      refine O.q (Qt.idxM Try.runUnderlying24 Try.sizeOf3 rfl (Src.row 0 rfl) rfl (by omega) (by omega)) rfl ?_
      refine O.l0 (Lo.storeM 0 (j := (e9).toNat) (off := 0) (vs := [.int .i64 (e10 + 1)]) (e := [.int .i64 e10]) (e10 + 1) rfl rfl rfl rfl (by omega) he10 rfl (by exact Try.sizeOf3) rfl rfl rfl rfl rfl) ?_
      rintro _ _ rfl
      have hs11 : (w2.set (e9).toNat (e10 + 1))[(e9).toNat]? = some (e10 + 1) := List.getElem?_set_self (List.getElem?_eq_some_iff.1 he10).1
      refine O.nil ?_
      refine J.blk ?_
      refine J.region ?_
      refine O.p (Pu.add' rfl rfl (by first | omega | (have h_ := Gr.waitQ_bnd (g := (gOf l)) (i := k) (q := q) (by rw [← hw2]; assumption); omega) | (have h_ := Gr.called_len (g := (gOf l)) (f := (k : Int)); omega))) rfl ?_
      refine O.p (Pu.move rfl) rfl ?_
      refine O.nil ?_
      exact J.lp ⟨q + 1, w2.set (e9).toNat (e10 + 1)⟩ (show (q + 1) ≤ (Gr.called (gOf l) (k : Int)).length ∧ (w2.set (e9).toNat (e10 + 1)) = Gr.waitQ (gOf l) k (q + 1) from ⟨by omega, (by rw [hw2]; exact Gr.waitQ_next he9 (by rw [← hw2]; exact he10))⟩) (show (Gr.called (gOf l) (k : Int)).length - (q + 1) < (Gr.called (gOf l) (k : Int)).length - q from (by omega)) ⟨rfl, rfl, rfl, rfl, rfl, rfl, rfl, (congrArg (fun z => some (Value.int .i64 z)) (by first | rfl | omega : ((q : Int) + 1 : Int) = ((q + 1) : Int))), trivial⟩ [0, 1] (by decide) rfl
    ·
      have p12 := of_decide_eq_false h7
      refine J.exit _ rfl ?_
      refine J.blk ?_
      refine J.region ?_
      refine O.p (Pu.add' rfl rfl (by first | omega | (have h_ := Gr.waitQ_bnd (g := (gOf l)) (i := k) (q := q) (by rw [← hw2]; assumption); omega) | (have h_ := Gr.called_len (g := (gOf l)) (f := (k : Int)); omega))) rfl ?_
      refine O.p (Pu.move rfl) rfl ?_
      refine O.nil ?_
      exact J.lp ⟨k + 1, w2⟩ (show (k + 1) ≤ l.length ∧ w2 = Gr.waitQ (gOf l) (k + 1) 0 from ⟨by omega, (by rw [hw2]; exact Gr.waitQ_row (by omega))⟩) (show l.length - (k + 1) < l.length - k from (by omega)) ⟨rfl, rfl, rfl, rfl, (congrArg (fun z => some (Value.int .i64 z)) (by first | rfl | omega : ((k : Int) + 1 : Int) = ((k + 1) : Int))), trivial⟩ [0] (by decide) rfl
  ·
    have p13 := of_decide_eq_false h3
    refine J.exit _ rfl ?_
    refine J.seq ?_
    refine J.region ?_
    refine O.p (Pu.move rfl) rfl ?_
    refine O.p (Pu.assign rfl) rfl ?_
    refine O.nil ?_
    exact J.ret (Fin.ret (rs := [.tmp 2]) rfl [_] ⟨rfl, trivial⟩ [0] (by decide) [row V1 3 1 (w.map encZ)] rfl (congrArg (fun (z : List Int) => ([row V1 3 1 (z.map encZ)] : List Sp)) (show w = Gr.leftL (gOf l) [] from (by rw [hw, show k = (gOf l).length from by omega]; exact Gr.waitQ_all))))

set_option maxRecDepth 100000 in
set_option maxHeartbeats 1000000 in
theorem g_Order (lv : Value) (l : List Sg) (hl : l.length ≤ 1000) (hc : ∀ s ∈ l, s.cl.length ≤ 1000) : Tri Try.prog 40 #[lv] [rd lv 14 (l.map Sg.cells), ros (l.map Sg.rd)] [] (fun v L' => ∃ V', v = .tuple #[V', .int .i64 (Gr.loops (gOf l))] ∧ L' = [row V' 3 1 ((Gr.ordL (gOf l)).map encZ)]) := by
  have hgl := gOf_len (l := l)
  refine Tri.enter (args := [lv]) (body := _) 43 Try.func40 rfl Try.ntmps40 rfl ?_
  intro w0
  refine J.seq ?_
  refine J.region ?_
  refine O.p (Pu.assign rfl) rfl ?_
  refine O.p (Pu.assign rfl) rfl ?_
  refine O.nil ?_
  refine J.seq ?_
  refine J.region ?_
  refine O.p (Pu.assign rfl) rfl ?_
  refine O.nil ?_
  refine J.seq ?_
  refine J.region ?_
  refine O.p (Pu.move rfl) rfl ?_
  refine O.l (Lo.call [lv] (by exact Try.call63) rfl (g_waits lv l hl hc) [] [] (by decide) rfl [] rfl (RoOk.ro 0 rfl [] rfl (RoOk.ro 1 rfl [] rfl RoOk.nil))) rfl ?_
  rintro v1 _ ⟨_, rfl, rfl⟩
  refine O.p (Pu.assign rfl) rfl ?_
  refine O.nil ?_
  refine J.seq ?_
  refine J.seq ?_
  refine J.region ?_
  refine O.p (Pu.move rfl) rfl ?_
  refine O.q (Qt.lenM Try.runUnderlying70 rfl (Src.ro 0 rfl)) rfl ?_
  refine O.p (Pu.move rfl) rfl ?_
  refine O.nil ?_
  refine J.block ?_
  refine J.nilRow 3 1 ?_
  refine J.loop (X := Nat × Value × List Int × List Nat × List Int) (fun ξ => ξ.1 ≤ l.length ∧ Gr.ordN (gOf l) ξ.1 = some ξ.2.2.2.1 ∧ ξ.2.2.1 = ξ.2.2.2.1.map (fun (n : Nat) => (n : Int)) ∧ ξ.2.2.2.2 = Gr.leftL (gOf l) ξ.2.2.2.1) (fun ξ => [(0, lv), (4, ξ.2.1), (5, v1), (12, .int .i64 (l.length : Int)), (13, .int .i64 (ξ.1 : Int))]) (fun ξ => [row ξ.2.1 3 1 (ξ.2.2.1.map encZ), row v1 3 1 (ξ.2.2.2.2.map encZ)]) (fun ξ => l.length - ξ.1) ⟨0, Value.slice none 0 0, [], [], Gr.leftL (gOf l) []⟩ (show 0 ≤ l.length ∧ Gr.ordN (gOf l) 0 = some ([]) ∧ ([]) = ([]).map (fun (n : Nat) => (n : Int)) ∧ (Gr.leftL (gOf l) []) = Gr.leftL (gOf l) ([]) from ⟨by omega, rfl, rfl, rfl⟩) ⟨rfl, rfl, rfl, rfl, (congrArg (fun z => some (Value.int .i64 z)) (by first | rfl | omega : (0 : Int) = (0 : Int))), trivial⟩ [0, 1] (by decide) rfl ?_
  rintro ⟨k, V, u, o, w⟩ hq2
  obtain ⟨hk, ho, hu, hw⟩ : k ≤ l.length ∧ Gr.ordN (gOf l) k = some o ∧ u = o.map (fun (n : Nat) => (n : Int)) ∧ w = Gr.leftL (gOf l) o := hq2
  show J _ _ [(0, lv), (4, V), (5, v1), (12, .int .i64 (l.length : Int)), (13, .int .i64 (k : Int))] [row V 3 1 (u.map encZ), row v1 3 1 (w.map encZ)]
  refine J.seq ?_
  refine J.region ?_
  refine O.p (Pu.lss rfl rfl) rfl ?_
  refine O.nil ?_
  refine J.seq ?_
  refine J.cond rfl (fun h3 => ?_) (fun h3 => ?_)
  ·
    have p4 := of_decide_eq_true h3
    refine J.skip ?_
    refine J.seq ?_
    refine J.block ?_
    refine J.seq ?_
    refine J.region ?_
    refine O.p (Pu.move rfl) rfl ?_
    refine O.l (Lo.call [v1, .int .i64 0] (by exact Try.call56) rfl (s_Index v1 w 0 (by first | omega | (rw [hw, Gr.leftL_len]; omega) | (rw [hu, List.length_map, Gr.ord_len ho]; omega))) [] [0, 1] (by decide) rfl [row V 3 1 (u.map encZ), row v1 3 1 (w.map encZ)] rfl (RoOk.of 1 rfl row_rd [] (by decide) rfl RoOk.nil)) rfl ?_
    rintro _ _ ⟨_, ⟨k5, rfl, hx6, rfl⟩, rfl⟩
    refine O.p (Pu.assign rfl) rfl ?_
    refine O.nil ?_
    refine J.seq ?_
    refine J.seq ?_
    refine J.region ?_
    refine O.p (Pu.move rfl) rfl ?_
    refine O.p (Pu.lss rfl rfl) rfl ?_
    refine O.nil ?_
    refine J.cond rfl (fun h8 => ?_) (fun h8 => ?_)
    ·
      have p9 := of_decide_eq_true h8
      refine J.seq ?_
      refine J.region ?_
      refine O.p (Pu.assign rfl) rfl ?_
      refine O.p (Pu.assign rfl) rfl ?_
      refine O.nil ?_
      refine J.nilRow 3 1 ?_
      show J _ _ _ [row (Value.slice none 0 0) 3 1 (([] : List Int).map encZ), row V 3 1 (u.map encZ), row v1 3 1 (w.map encZ)]
      exact J.ret (Fin.ret (rs := [.tmp 2, .tmp 3]) rfl [_, _] ⟨rfl, rfl, trivial⟩ [0] (by decide) [row (Value.slice none 0 0) 3 1 (([] : List Int).map encZ)] rfl ⟨Value.slice none 0 0, (by rw [Gr.loops_no (Gr.ord_stop ho (Gr.idx_none (by rw [← hw]; exact hx6) (by omega)) (by omega))]; rfl), (congrArg (fun (z : List Int) => ([row (Value.slice none 0 0) 3 1 (z.map encZ)] : List Sp)) (Gr.ordL_no (Gr.ord_stop ho (Gr.idx_none (by rw [← hw]; exact hx6) (by omega)) (by omega))).symm)⟩)
    ·
      have p10 := of_decide_eq_false h8
      refine J.skip ?_
      refine J.seq ?_
      obtain ⟨p, rfl, hp⟩ := Gr.idx_some (by rw [← hw]; exact hx6) (by omega)
      have hpl := (Gr.pick_some hp).1
      have hwl0 : w.length = l.length := by rw [hw, Gr.leftL_len, hgl]
      refine J.region ?_
      refine O.p (Pu.move rfl) rfl ?_
      refine O.p (Pu.move rfl) rfl ?_
      obtain ⟨e11, he11⟩ : ∃ x_, w[p]? = some x_ := ⟨_, List.getElem?_eq_getElem (by first | omega | (simp only [List.length_set]; omega) | (rw [hu, List.length_map, Gr.ord_len ho]; simp only [List.length_cons, List.length_nil]; omega))⟩
      refine O.q (Qt.idxM Try.runUnderlying24 Try.sizeOf3 rfl (Src.row 1 rfl) rfl (by first | omega | (simp only [List.length_set]; omega) | (rw [hu, List.length_map, Gr.ord_len ho]; simp only [List.length_cons, List.length_nil]; omega)) (by first | omega | (simp only [List.length_set]; omega) | (rw [hu, List.length_map, Gr.ord_len ho]; simp only [List.length_cons, List.length_nil]; omega))) rfl ?_
      refine O.l0 (Lo.storeM 1 (j := p) (off := 0) (vs := [.int .i64 (-1)]) (e := [.int .i64 e11]) (-1) rfl rfl rfl rfl (by omega) he11 rfl (by exact Try.sizeOf3) rfl rfl rfl rfl rfl) ?_
      rintro _ _ rfl
      have hs12 : (w.set p (-1))[p]? = some (-1) := List.getElem?_set_self (List.getElem?_eq_some_iff.1 he11).1
      refine O.nil ?_
      refine J.seq ?_
      refine J.seq ?_
      refine J.region ?_
      refine O.p (Pu.move rfl) rfl ?_
      refine O.p (Pu.move rfl) rfl ?_
      refine O.l (Lo.call [lv, .int .i64 (p : Int)] (by exact Try.call64) rfl (g_called lv l (p : Int) hl hc) [] [0, 1] (by decide) rfl [row V 3 1 (u.map encZ), row v1 3 1 ((w.set p (-1)).map encZ)] rfl (RoOk.ro 0 rfl [] rfl (RoOk.ro 1 rfl [] rfl RoOk.nil))) rfl ?_
      rintro v13 _ ⟨_, rfl, rfl⟩
      refine O.q (Qt.lenM Try.runUnderlying24 rfl (Src.row 0 rfl)) rfl ?_
      refine O.p (Pu.move rfl) rfl ?_
      refine O.nil ?_
      refine J.block ?_
      refine J.loop (X := Nat × List Int) (fun ξ => ξ.1 ≤ (Gr.called (gOf l) (p : Int)).length ∧ ξ.2 = Gr.leftQ (gOf l) o p ξ.1) (fun ξ => [(0, lv), (4, V), (5, v1), (6, .int .i64 (p : Int)), (12, .int .i64 (l.length : Int)), (13, .int .i64 (k : Int)), (24, v13), (25, .int .i64 ((Gr.called (gOf l) (p : Int)).length : Int)), (26, .int .i64 (ξ.1 : Int))]) (fun ξ => [row V 3 1 (u.map encZ), row v1 3 1 (ξ.2.map encZ), row v13 3 1 ((Gr.called (gOf l) (p : Int)).map encZ)]) (fun ξ => (Gr.called (gOf l) (p : Int)).length - ξ.1) ⟨0, w.set p (-1)⟩ (show 0 ≤ (Gr.called (gOf l) (p : Int)).length ∧ (w.set p (-1)) = Gr.leftQ (gOf l) o p 0 from ⟨by omega, (by rw [hw]; exact Gr.leftQ_zero)⟩) ⟨rfl, rfl, rfl, rfl, rfl, rfl, rfl, rfl, (congrArg (fun z => some (Value.int .i64 z)) (by first | rfl | omega : (0 : Int) = (0 : Int))), trivial⟩ [1, 2, 0] (by decide) rfl ?_
      rintro ⟨q, w2⟩ hq14
      obtain ⟨hq, hw2⟩ : q ≤ (Gr.called (gOf l) (p : Int)).length ∧ w2 = Gr.leftQ (gOf l) o p q := hq14
      show J _ _ [(0, lv), (4, V), (5, v1), (6, .int .i64 (p : Int)), (12, .int .i64 (l.length : Int)), (13, .int .i64 (k : Int)), (24, v13), (25, .int .i64 ((Gr.called (gOf l) (p : Int)).length : Int)), (26, .int .i64 (q : Int))] [row V 3 1 (u.map encZ), row v1 3 1 (w2.map encZ), row v13 3 1 ((Gr.called (gOf l) (p : Int)).map encZ)]
      refine J.seq ?_
      refine J.region ?_
      refine O.p (Pu.lss rfl rfl) rfl ?_
      refine O.nil ?_
      refine J.seq ?_
      refine J.cond rfl (fun h15 => ?_) (fun h15 => ?_)
      ·
        have p16 := of_decide_eq_true h15
        refine J.skip ?_
        refine J.seq ?_
        refine J.block ?_
        refine J.seq ?_
        refine J.region ?_
        obtain ⟨e17, he17⟩ : ∃ x_, (Gr.called (gOf l) (p : Int))[q]? = some x_ := ⟨_, List.getElem?_eq_getElem (by first | omega | (simp only [List.length_set]; omega) | (rw [hu, List.length_map, Gr.ord_len ho]; simp only [List.length_cons, List.length_nil]; omega))⟩
        refine O.q (Qt.idxM Try.runUnderlying24 Try.sizeOf3 rfl (Src.row 2 rfl) rfl (by first | omega | (simp only [List.length_set]; omega) | (rw [hu, List.length_map, Gr.ord_len ho]; simp only [List.length_cons, List.length_nil]; omega)) (by first | omega | (simp only [List.length_set]; omega) | (rw [hu, List.length_map, Gr.ord_len ho]; simp only [List.length_cons, List.length_nil]; omega))) rfl ?_
        refine O.q (Qt.ld rfl (Cel.eltM (Src.row 2 rfl) he17) (o := (voff v13 + q * 1)) (off := 0) (by omega) (Cut.one Try.isAgg3 rfl)) rfl ?_
        refine O.p (Pu.assign rfl) rfl ?_
        refine O.nil ?_
        obtain ⟨jt, hjt, hjl⟩ := Gr.called_bnd he17
        have hwl : w2.length = l.length := by rw [hw2, Gr.leftQ_len, hgl]
        obtain ⟨e18, he18⟩ : ∃ x_, w2[(e17).toNat]? = some x_ := ⟨_, List.getElem?_eq_getElem (by first | omega | (simp only [List.length_set]; omega) | (rw [hu, List.length_map, Gr.ord_len ho]; simp only [List.length_cons, List.length_nil]; omega))⟩
        refine J.region ?_
        refine O.p (Pu.move rfl) rfl ?_
        refine O.p (Pu.move rfl) rfl ?_
        refine O.q (Qt.idxM Try.runUnderlying24 Try.sizeOf3 rfl (Src.row 1 rfl) rfl (by first | omega | (simp only [List.length_set]; omega) | (rw [hu, List.length_map, Gr.ord_len ho]; simp only [List.length_cons, List.length_nil]; omega)) (by first | omega | (simp only [List.length_set]; omega) | (rw [hu, List.length_map, Gr.ord_len ho]; simp only [List.length_cons, List.length_nil]; omega))) rfl ?_
        refine O.q (Qt.ld rfl (Cel.eltM (Src.row 1 rfl) he18) (o := (voff v1 + ((e17).toNat) * 1)) (off := 0) (by omega) (Cut.one Try.isAgg3 rfl)) rfl ?_
        refine O.p (Pu.sub' rfl rfl (by first | omega | (have h_ := Gr.leftQ_bnd (g := (gOf l)) (o := o) (p := p) (q := q) (by rw [← hw2]; assumption); omega) | (have h_ := Gr.called_len (g := (gOf l)) (f := (p : Int)); omega))) rfl ?_
        refine O.q (Qt.idxM Try.runUnderlying24 Try.sizeOf3 rfl (Src.row 1 rfl) rfl (by first | omega | (simp only [List.length_set]; omega) | (rw [hu, List.length_map, Gr.ord_len ho]; simp only [List.length_cons, List.length_nil]; omega)) (by first | omega | (simp only [List.length_set]; omega) | (rw [hu, List.length_map, Gr.ord_len ho]; simp only [List.length_cons, List.length_nil]; omega))) rfl ?_
        refine O.l0 (Lo.storeM 1 (j := (e17).toNat) (off := 0) (vs := [.int .i64 (e18 - 1)]) (e := [.int .i64 e18]) (e18 - 1) rfl rfl rfl rfl (by omega) he18 rfl (by exact Try.sizeOf3) rfl rfl rfl rfl rfl) ?_
        rintro _ _ rfl
        have hs19 : (w2.set (e17).toNat (e18 - 1))[(e17).toNat]? = some (e18 - 1) := List.getElem?_set_self (List.getElem?_eq_some_iff.1 he18).1
        refine O.nil ?_
        refine J.blk ?_
        refine J.region ?_
        refine O.p (Pu.add' rfl rfl (by first | omega | (have h_ := Gr.leftQ_bnd (g := (gOf l)) (o := o) (p := p) (q := q) (by rw [← hw2]; assumption); omega) | (have h_ := Gr.called_len (g := (gOf l)) (f := (p : Int)); omega))) rfl ?_
        refine O.p (Pu.move rfl) rfl ?_
        refine O.nil ?_
        exact J.lp ⟨q + 1, w2.set (e17).toNat (e18 - 1)⟩ (show (q + 1) ≤ (Gr.called (gOf l) (p : Int)).length ∧ (w2.set (e17).toNat (e18 - 1)) = Gr.leftQ (gOf l) o p (q + 1) from ⟨by omega, (by rw [hw2]; exact Gr.leftQ_next ho hp he17 (by rw [← hw2]; exact he18))⟩) (show (Gr.called (gOf l) (p : Int)).length - (q + 1) < (Gr.called (gOf l) (p : Int)).length - q from (by first | omega | (simp only [List.length_set]; omega) | (rw [hu, List.length_map, Gr.ord_len ho]; simp only [List.length_cons, List.length_nil]; omega))) ⟨rfl, rfl, rfl, rfl, rfl, rfl, rfl, rfl, (congrArg (fun z => some (Value.int .i64 z)) (by first | rfl | omega : ((q : Int) + 1 : Int) = ((q + 1) : Int))), trivial⟩ [0, 1, 2] (by decide) rfl
      ·
        have p20 := of_decide_eq_false h15
        refine J.exit _ rfl ?_
        refine J.region ?_
        refine O.p (Pu.move rfl) rfl ?_
        refine O.p (Pu.move rfl) rfl ?_
        refine O.l (Lo.buildM (s := 1) encZ [(p : Int)] [(0, .int .i64 (p : Int))] (by exact Try.runUnderlying24) (by exact Try.sizeOf3) (by exact Try.zeroValue3) rfl rfl rfl (by kernel_rfl) rfl rfl) rfl ?_
        rintro V21 _ rfl
        refine O.l (Lo.appendM (s := 1) 1 (by exact Try.underlying24) (by exact (info3).1) (by exact (info3).2.1) (by exact (info3).2.2.1) (by exact (info3).2.2.2) rfl rfl rfl rfl rfl (Src.row 0 rfl) encZ.one (by first | omega | (simp only [List.length_set]; omega) | (rw [hu, List.length_map, Gr.ord_len ho]; simp only [List.length_cons, List.length_nil]; omega)) (by first | omega | (simp only [List.length_set]; omega) | (rw [hu, List.length_map, Gr.ord_len ho]; simp only [List.length_cons, List.length_nil]; omega))) rfl ?_
        rintro V22 _ rfl
        refine O.p (Pu.assign rfl) rfl ?_
        refine O.nil ?_
        refine J.blk ?_
        refine J.region ?_
        refine O.p (Pu.add' rfl rfl (by first | omega | (have h_ := Gr.leftQ_bnd (g := (gOf l)) (o := o) (p := p) (q := q) (by rw [← hw2]; assumption); omega) | (have h_ := Gr.called_len (g := (gOf l)) (f := (p : Int)); omega))) rfl ?_
        refine O.p (Pu.move rfl) rfl ?_
        refine O.nil ?_
        exact J.lp ⟨k + 1, V22, u ++ ([(p : Int)]), o ++ [p], w2⟩ (show (k + 1) ≤ l.length ∧ Gr.ordN (gOf l) (k + 1) = some (o ++ [p]) ∧ (u ++ ([(p : Int)])) = (o ++ [p]).map (fun (n : Nat) => (n : Int)) ∧ w2 = Gr.leftL (gOf l) (o ++ [p]) from ⟨by omega, Gr.ord_more ho hp, (by rw [hu]; simp), (by rw [hw2]; exact Gr.leftQ_end hp (by omega))⟩) (show l.length - (k + 1) < l.length - k from (by first | omega | (simp only [List.length_set]; omega) | (rw [hu, List.length_map, Gr.ord_len ho]; simp only [List.length_cons, List.length_nil]; omega))) ⟨rfl, rfl, rfl, rfl, (congrArg (fun z => some (Value.int .i64 z)) (by first | rfl | omega : ((k : Int) + 1 : Int) = ((k + 1) : Int))), trivial⟩ [1, 2] (by decide) rfl
  ·
    have p23 := of_decide_eq_false h3
    refine J.exit _ rfl ?_
    refine J.seq ?_
    refine J.region ?_
    refine O.p (Pu.move rfl) rfl ?_
    refine O.p (Pu.assign rfl) rfl ?_
    refine O.p (Pu.assign rfl) rfl ?_
    refine O.nil ?_
    exact J.ret (Fin.ret (rs := [.tmp 2, .tmp 3]) rfl [_, _] ⟨rfl, rfl, trivial⟩ [0] (by decide) [row V 3 1 (u.map encZ)] rfl ⟨V, (by rw [Gr.loops_yes (show Gr.ordN (gOf l) (gOf l).length = some o from (by rw [show (gOf l).length = k from by omega]; exact ho))]; rfl), (congrArg (fun (z : List Int) => ([row V 3 1 (z.map encZ)] : List Sp)) (show u = Gr.ordL (gOf l) from (by rw [Gr.ordL_yes (show Gr.ordN (gOf l) (gOf l).length = some o from (by rw [show (gOf l).length = k from by omega]; exact ho)), hu])))⟩)

set_option maxRecDepth 100000 in
theorem g_Check (lv : Value) (l : List Sg) (hl : l.length ≤ 1000) (hc : ∀ s ∈ l, s.cl.length ≤ 1000) : Tri Try.prog 43 #[lv] [rd lv 14 (l.map Sg.cells), ros (l.map Sg.rd)] [] (fun v L' => v = .int .i64 (Gr.loops (gOf l)) ∧ L' = []) := by
  have hgl := gOf_len (l := l)
  refine Tri.enter (args := [lv]) (body := _) 11 Try.func43 rfl Try.ntmps43 rfl ?_
  intro w0
  refine J.seq ?_
  refine J.region ?_
  refine O.p (Pu.assign rfl) rfl ?_
  refine O.nil ?_
  refine J.seq ?_
  refine J.region ?_
  refine O.p (Pu.move rfl) rfl ?_
  refine O.l (Lo.call [lv] (by exact Try.call40) rfl (g_Order lv l hl hc) [] [] (by decide) rfl [] rfl (RoOk.ro 0 rfl [] rfl (RoOk.ro 1 rfl [] rfl RoOk.nil))) rfl ?_
  rintro _ _ ⟨_, ⟨V1, rfl, rfl⟩, rfl⟩
  refine O.p (Pu.move rfl) rfl ?_
  refine O.p (Pu.extract rfl rfl) rfl ?_
  refine O.p (Pu.extract rfl rfl) rfl ?_
  refine O.p (Pu.assign rfl) rfl ?_
  refine O.p (Pu.assign rfl) rfl ?_
  refine O.nil ?_
  refine J.seq ?_
  refine J.region ?_
  refine O.p (Pu.move rfl) rfl ?_
  refine O.p (Pu.assign rfl) rfl ?_
  refine O.nil ?_
  exact J.ret (Fin.ret (rs := [.tmp 2]) rfl [_] ⟨rfl, trivial⟩ [] (by decide) [] rfl ⟨rfl, rfl⟩)

set_option maxRecDepth 100000 in
theorem g_Callers (lv : Value) (l : List Sg) (b : Int) (hl : l.length ≤ 1000) (hc : ∀ s ∈ l, s.cl.length ≤ 1000) : Tri Try.prog 45 #[.int .i64 b, lv] [rd lv 14 (l.map Sg.cells), ros (l.map Sg.rd)] [] (fun v L' => L' = [row v 3 1 ((Gr.callers (gOf l) b).map encZ)]) := by
  have hgl := gOf_len (l := l)
  refine Tri.enter (args := [.int .i64 b, lv]) (body := _) 23 Try.func45 rfl Try.ntmps45 rfl ?_
  intro w0
  refine J.seq ?_
  refine J.region ?_
  refine O.p (Pu.assign rfl) rfl ?_
  refine O.nil ?_
  refine J.seq ?_
  refine J.region ?_
  refine O.p (Pu.assign rfl) rfl ?_
  refine O.nil ?_
  refine J.seq ?_
  refine J.seq ?_
  refine J.region ?_
  refine O.p (Pu.move rfl) rfl ?_
  refine O.q (Qt.lenM Try.runUnderlying70 rfl (Src.ro 0 rfl)) rfl ?_
  refine O.p (Pu.move rfl) rfl ?_
  refine O.nil ?_
  refine J.block ?_
  refine J.nilRow 3 1 ?_
  refine J.loop (X := Nat × Value × List Int) (fun ξ => ξ.1 ≤ l.length ∧ ξ.2.2 = Gr.callersK (gOf l) b ξ.1 ∧ ξ.2.2.length ≤ ξ.1) (fun ξ => [(0, .int .i64 b), (1, lv), (4, Value.slice none 0 0), (5, ξ.2.1), (8, .int .i64 (l.length : Int)), (9, .int .i64 (ξ.1 : Int))]) (fun ξ => [row ξ.2.1 3 1 (ξ.2.2.map encZ)]) (fun ξ => l.length - ξ.1) ⟨0, Value.slice none 0 0, []⟩ (show 0 ≤ l.length ∧ ([]) = Gr.callersK (gOf l) b 0 ∧ ([]).length ≤ 0 from ⟨by omega, rfl, by simp⟩) ⟨rfl, rfl, rfl, rfl, rfl, (congrArg (fun z => some (Value.int .i64 z)) (by first | rfl | omega : (0 : Int) = (0 : Int))), trivial⟩ [0] (by decide) rfl ?_
  rintro ⟨k, V, o⟩ hq1
  obtain ⟨hk, hst, hlen⟩ : k ≤ l.length ∧ o = Gr.callersK (gOf l) b k ∧ o.length ≤ k := hq1
  show J _ _ [(0, .int .i64 b), (1, lv), (4, Value.slice none 0 0), (5, V), (8, .int .i64 (l.length : Int)), (9, .int .i64 (k : Int))] [row V 3 1 (o.map encZ)]
  refine J.seq ?_
  refine J.region ?_
  refine O.p (Pu.lss rfl rfl) rfl ?_
  refine O.nil ?_
  refine J.seq ?_
  refine J.cond rfl (fun h2 => ?_) (fun h2 => ?_)
  ·
    have p3 := of_decide_eq_true h2
    refine J.skip ?_
    refine J.seq ?_
    refine J.block ?_
    refine J.seq ?_
    refine J.region ?_
    refine O.p (Pu.move rfl) rfl ?_
    refine O.p (Pu.assign rfl) rfl ?_
    refine O.nil ?_
    refine J.seq ?_
    refine J.region ?_
    refine O.p (Pu.move rfl) rfl ?_
    refine O.p (Pu.move rfl) rfl ?_
    refine O.l (Lo.call [lv, .int .i64 (k : Int)] (by exact Try.call64) rfl (g_called lv l (k : Int) hl hc) [] [0] (by decide) rfl [row V 3 1 (o.map encZ)] rfl (RoOk.ro 0 rfl [] rfl (RoOk.ro 1 rfl [] rfl RoOk.nil))) rfl ?_
    rintro v4 _ ⟨_, rfl, rfl⟩
    refine O.p (Pu.move rfl) rfl ?_
    refine O.l (Lo.call [v4, .int .i64 b] (by exact Try.call68) rfl (s_Contains v4 (Gr.called (gOf l) (k : Int)) b (by first | omega | (simp only [List.length_append, List.length_cons, List.length_nil]; omega) | (have h_ := Gr.called_len (g := (gOf l)) (f := (k : Int)); omega))) [] [0, 1] (by decide) rfl [row v4 3 1 ((Gr.called (gOf l) (k : Int)).map encZ), row V 3 1 (o.map encZ)] rfl (RoOk.of 0 rfl row_rd [] (by decide) rfl RoOk.nil)) rfl ?_
    rintro _ _ ⟨_, ⟨rfl, rfl⟩, rfl⟩
    refine O.nil ?_
    refine J.cond rfl (fun h6 => ?_) (fun h6 => ?_)
    ·
      have p7 := of_decide_eq_true h6
      refine J.region ?_
      refine O.p (Pu.move rfl) rfl ?_
      refine O.p (Pu.move rfl) rfl ?_
      refine O.l (Lo.buildM (s := 1) encZ [(k : Int)] [(0, .int .i64 (k : Int))] (by exact Try.runUnderlying24) (by exact Try.sizeOf3) (by exact Try.zeroValue3) rfl rfl rfl (by kernel_rfl) rfl rfl) rfl ?_
      rintro V8 _ rfl
      refine O.l (Lo.appendM (s := 1) 2 (by exact Try.underlying24) (by exact (info3).1) (by exact (info3).2.1) (by exact (info3).2.2.1) (by exact (info3).2.2.2) rfl rfl rfl rfl rfl (Src.row 0 rfl) encZ.one (by first | omega | (simp only [List.length_append, List.length_cons, List.length_nil]; omega) | (have h_ := Gr.called_len (g := (gOf l)) (f := (k : Int)); omega)) (by first | omega | (simp only [List.length_append, List.length_cons, List.length_nil]; omega) | (have h_ := Gr.called_len (g := (gOf l)) (f := (k : Int)); omega))) rfl ?_
      rintro V9 _ rfl
      refine O.p (Pu.assign rfl) rfl ?_
      refine O.nil ?_
      refine J.blk ?_
      refine J.region ?_
      refine O.p (Pu.add' rfl rfl (by first | omega | (simp only [List.length_append, List.length_cons, List.length_nil, List.length_set]; omega))) rfl ?_
      refine O.p (Pu.move rfl) rfl ?_
      refine O.nil ?_
      exact J.lp ⟨k + 1, V9, o ++ ([(k : Int)])⟩ (show (k + 1) ≤ l.length ∧ (o ++ ([(k : Int)])) = Gr.callersK (gOf l) b (k + 1) ∧ (o ++ ([(k : Int)])).length ≤ (k + 1) from ⟨by omega, (by rw [hst]; first | exact (Gr.callersK_yes (by rw [Gr.calls_called]; exact decide_eq_true (by assumption))).symm | exact (Gr.callersK_no (by rw [Gr.calls_called]; exact decide_eq_false (by assumption))).symm), (by first | omega | (simp only [List.length_append, List.length_cons, List.length_nil]; omega))⟩) (show l.length - (k + 1) < l.length - k from (by first | omega | (simp only [List.length_append, List.length_cons, List.length_nil]; omega) | (have h_ := Gr.called_len (g := (gOf l)) (f := (k : Int)); omega))) ⟨rfl, rfl, rfl, rfl, rfl, (congrArg (fun z => some (Value.int .i64 z)) (by first | rfl | omega : ((k : Int) + 1 : Int) = ((k + 1) : Int))), trivial⟩ [2] (by decide) rfl
    ·
      have p10 := of_decide_eq_false h6
      refine J.skip ?_
      refine J.blk ?_
      refine J.region ?_
      refine O.p (Pu.add' rfl rfl (by first | omega | (simp only [List.length_append, List.length_cons, List.length_nil, List.length_set]; omega))) rfl ?_
      refine O.p (Pu.move rfl) rfl ?_
      refine O.nil ?_
      exact J.lp ⟨k + 1, V, o⟩ (show (k + 1) ≤ l.length ∧ o = Gr.callersK (gOf l) b (k + 1) ∧ o.length ≤ (k + 1) from ⟨by omega, (by rw [hst]; first | exact (Gr.callersK_yes (by rw [Gr.calls_called]; exact decide_eq_true (by assumption))).symm | exact (Gr.callersK_no (by rw [Gr.calls_called]; exact decide_eq_false (by assumption))).symm), (by first | omega | (simp only [List.length_append, List.length_cons, List.length_nil]; omega))⟩) (show l.length - (k + 1) < l.length - k from (by first | omega | (simp only [List.length_append, List.length_cons, List.length_nil]; omega) | (have h_ := Gr.called_len (g := (gOf l)) (f := (k : Int)); omega))) ⟨rfl, rfl, rfl, rfl, rfl, (congrArg (fun z => some (Value.int .i64 z)) (by first | rfl | omega : ((k : Int) + 1 : Int) = ((k + 1) : Int))), trivial⟩ [1] (by decide) rfl
  ·
    have p11 := of_decide_eq_false h2
    refine J.exit _ rfl ?_
    refine J.seq ?_
    refine J.region ?_
    refine O.p (Pu.move rfl) rfl ?_
    refine O.p (Pu.assign rfl) rfl ?_
    refine O.nil ?_
    exact J.ret (Fin.ret (rs := [.tmp 4]) rfl [_] ⟨rfl, trivial⟩ [0] (by decide) [row V 3 1 (o.map encZ)] rfl (congrArg (fun (z : List Int) => ([row V 3 1 (z.map encZ)] : List Sp)) (show o = Gr.callers (gOf l) b from (by rw [hst]; exact congrArg (Gr.callersK (gOf l) b) (show k = (gOf l).length from by omega)))))

end Go.Proofs.Ytnkhmbbnabejhaa

namespace Go.Proofs.Ytnkhmbbnabejhaa
open Go Go.LK
set_option linter.unusedSimpArgs false

set_option maxRecDepth 100000 in
theorem r29_Calls (lv : Value) (l : List Sg) (a b : Int) (hl : l.length ≤ 1000) (hc : ∀ s ∈ l, s.cl.length ≤ 1000) : Tri Try.prog 50 #[lv, .int .i64 a, .int .i64 b] [rd lv 14 (l.map Sg.cells), ros (l.map Sg.rd)] [] (fun v L' => v = .bool (Gr.calls (gOf l) a b) ∧ L' = []) := by
  have hgl := gOf_len (l := l)
  refine Tri.enter (args := [lv, .int .i64 a, .int .i64 b]) (body := _) 47 Try.func50 rfl Try.ntmps50 rfl ?_
  intro w0
  refine J.seq ?_
  refine J.region ?_
  refine O.p (Pu.assign rfl) rfl ?_
  refine O.nil ?_
  refine J.seq ?_
  refine J.seq ?_
  refine J.region ?_
  refine O.p (Pu.move rfl) rfl ?_
  refine O.p (Pu.lss rfl rfl) rfl ?_
  refine O.p (Pu.move rfl) rfl ?_
  refine by_bool (decide (a < 0)) (fun h1 => ?_) (fun h1 => ?_)
  ·
    have p2 := of_decide_eq_true h1
    refine O.gskip (t := 10) rfl rfl (no_bool (by rw [h1]; decide)) rfl rfl ?_
    refine O.gskip (t := 10) rfl rfl (no_bool (by rw [h1]; decide)) rfl rfl ?_
    refine O.gskip (t := 10) rfl rfl (no_bool (by rw [h1]; decide)) rfl rfl ?_
    refine O.gskip (t := 10) rfl rfl (no_bool (by rw [h1]; decide)) rfl rfl ?_
    refine O.p (Pu.pickT rfl h1 rfl) rfl ?_
    refine O.p (Pu.move rfl) rfl ?_
    refine O.gskip (t := 16) rfl rfl (no_bool (by decide)) rfl rfl ?_
    refine O.gskip (t := 16) rfl rfl (no_bool (by decide)) rfl rfl ?_
    refine O.p (Pu.pickT rfl rfl rfl) rfl ?_
    refine O.p (Pu.move rfl) rfl ?_
    refine O.gskip (t := 20) rfl rfl (no_bool (by decide)) rfl rfl ?_
    refine O.gskip (t := 20) rfl rfl (no_bool (by decide)) rfl rfl ?_
    refine O.gskip (t := 20) rfl rfl (no_bool (by decide)) rfl rfl ?_
    refine O.gskip (t := 20) rfl rfl (no_bool (by decide)) rfl rfl ?_
    refine O.p (Pu.pickT rfl rfl rfl) rfl ?_
    refine O.nil ?_
    refine J.condT rfl rfl ?_
    refine J.seq ?_
    refine J.region ?_
    refine O.p (Pu.assign rfl) rfl ?_
    refine O.nil ?_
    exact J.ret (Fin.ret (rs := [.tmp 6]) rfl [_] ⟨rfl, trivial⟩ [] (by decide) [] rfl ⟨(by rw [Gr.calls_no (g := (gOf l)) (by omega)]; rfl), rfl⟩)
  ·
    have p3 := of_decide_eq_false h1
    refine O.gq (t := 10) rfl rfl h1 rfl (Pu.qt (Pu.move rfl)) rfl ?_
    refine O.gq (t := 10) rfl rfl h1 rfl (Pu.qt (Pu.move rfl)) rfl ?_
    refine O.gq (t := 10) rfl rfl h1 rfl (Qt.lenM Try.runUnderlying70 rfl (Src.ro 0 rfl)) rfl ?_
    refine O.gq (t := 10) rfl rfl h1 rfl (Pu.qt (Pu.geq rfl rfl)) rfl ?_
    refine O.p (Pu.pickF rfl h1 rfl) rfl ?_
    refine O.p (Pu.move rfl) rfl ?_
    refine by_bool (decide ((l.length : Int) ≤ a)) (fun h4 => ?_) (fun h4 => ?_)
    ·
      have p5 := of_decide_eq_true h4
      refine O.gskip (t := 16) rfl rfl (no_bool (by rw [h4]; decide)) rfl rfl ?_
      refine O.gskip (t := 16) rfl rfl (no_bool (by rw [h4]; decide)) rfl rfl ?_
      refine O.p (Pu.pickT rfl h4 rfl) rfl ?_
      refine O.p (Pu.move rfl) rfl ?_
      refine O.gskip (t := 20) rfl rfl (no_bool (by decide)) rfl rfl ?_
      refine O.gskip (t := 20) rfl rfl (no_bool (by decide)) rfl rfl ?_
      refine O.gskip (t := 20) rfl rfl (no_bool (by decide)) rfl rfl ?_
      refine O.gskip (t := 20) rfl rfl (no_bool (by decide)) rfl rfl ?_
      refine O.p (Pu.pickT rfl rfl rfl) rfl ?_
      refine O.nil ?_
      refine J.condT rfl rfl ?_
      refine J.seq ?_
      refine J.region ?_
      refine O.p (Pu.assign rfl) rfl ?_
      refine O.nil ?_
      exact J.ret (Fin.ret (rs := [.tmp 6]) rfl [_] ⟨rfl, trivial⟩ [] (by decide) [] rfl ⟨(by rw [Gr.calls_no (g := (gOf l)) (by omega)]; rfl), rfl⟩)
    ·
      have p6 := of_decide_eq_false h4
      refine O.gq (t := 16) rfl rfl h4 rfl (Pu.qt (Pu.move rfl)) rfl ?_
      refine O.gq (t := 16) rfl rfl h4 rfl (Pu.qt (Pu.lss rfl rfl)) rfl ?_
      refine O.p (Pu.pickF rfl h4 rfl) rfl ?_
      refine O.p (Pu.move rfl) rfl ?_
      refine by_bool (decide (b < 0)) (fun h7 => ?_) (fun h7 => ?_)
      ·
        have p8 := of_decide_eq_true h7
        refine O.gskip (t := 20) rfl rfl (no_bool (by rw [h7]; decide)) rfl rfl ?_
        refine O.gskip (t := 20) rfl rfl (no_bool (by rw [h7]; decide)) rfl rfl ?_
        refine O.gskip (t := 20) rfl rfl (no_bool (by rw [h7]; decide)) rfl rfl ?_
        refine O.gskip (t := 20) rfl rfl (no_bool (by rw [h7]; decide)) rfl rfl ?_
        refine O.p (Pu.pickT rfl h7 rfl) rfl ?_
        refine O.nil ?_
        refine J.condT rfl rfl ?_
        refine J.seq ?_
        refine J.region ?_
        refine O.p (Pu.assign rfl) rfl ?_
        refine O.nil ?_
        exact J.ret (Fin.ret (rs := [.tmp 6]) rfl [_] ⟨rfl, trivial⟩ [] (by decide) [] rfl ⟨(by rw [Gr.calls_no (g := (gOf l)) (by omega)]; rfl), rfl⟩)
      ·
        have p9 := of_decide_eq_false h7
        refine O.gq (t := 20) rfl rfl h7 rfl (Pu.qt (Pu.move rfl)) rfl ?_
        refine O.gq (t := 20) rfl rfl h7 rfl (Pu.qt (Pu.move rfl)) rfl ?_
        refine O.gq (t := 20) rfl rfl h7 rfl (Qt.lenM Try.runUnderlying70 rfl (Src.ro 0 rfl)) rfl ?_
        refine O.gq (t := 20) rfl rfl h7 rfl (Pu.qt (Pu.geq rfl rfl)) rfl ?_
        refine O.p (Pu.pickF rfl h7 rfl) rfl ?_
        refine O.nil ?_
        refine J.cond rfl (fun h10 => ?_) (fun h10 => ?_)
        ·
          have p11 := of_decide_eq_true h10
          refine J.seq ?_
          refine J.region ?_
          refine O.p (Pu.assign rfl) rfl ?_
          refine O.nil ?_
          exact J.ret (Fin.ret (rs := [.tmp 6]) rfl [_] ⟨rfl, trivial⟩ [] (by decide) [] rfl ⟨(by rw [Gr.calls_no (g := (gOf l)) (by omega)]; rfl), rfl⟩)
        ·
          have p12 := of_decide_eq_false h10
          refine J.skip ?_
          refine J.seq ?_
          refine J.seq ?_
          obtain ⟨e13, he13⟩ : ∃ x_, l[(a).toNat]? = some x_ := ⟨_, List.getElem?_eq_getElem (by omega)⟩
          refine J.ros 1 rfl (A := rd e13.cv 4 (e13.cl.map encT)) (List.mem_map.2 ⟨e13, List.mem_of_getElem? he13, rfl⟩) ?_
          have hcl := hc _ (List.mem_of_getElem? he13)
          refine J.region ?_
          refine O.p (Pu.assign rfl) rfl ?_
          refine O.nil ?_
          refine J.block ?_
          refine J.loop (X := Nat) (fun ξ => ξ ≤ e13.cl.length ∧ b ∉ e13.cl.take ξ) (fun ξ => [(0, lv), (1, .int .i64 a), (2, .int .i64 b), (7, .int .i64 (ξ : Int))]) (fun ξ => []) (fun ξ => e13.cl.length - ξ) 0 (show 0 ≤ e13.cl.length ∧ b ∉ e13.cl.take 0 from ⟨by omega, by simp⟩) ⟨rfl, rfl, rfl, (congrArg (fun z => some (Value.int .i64 z)) (by first | rfl | omega : (0 : Int) = (0 : Int))), trivial⟩ [] (by decide) rfl ?_
          rintro k hq14
          obtain ⟨hk, hno⟩ : k ≤ e13.cl.length ∧ b ∉ e13.cl.take k := hq14
          show J _ _ [(0, lv), (1, .int .i64 a), (2, .int .i64 b), (7, .int .i64 (k : Int))] []
          refine J.seq ?_
          refine J.seq ?_
          refine J.region ?_
          refine O.p (Pu.move rfl) rfl ?_
          refine O.p (Pu.move rfl) rfl ?_
          refine O.p (Pu.move rfl) rfl ?_
          refine O.q (Qt.idxM Try.runUnderlying70 Try.sizeOf104 rfl (Src.ro 0 rfl) rfl (by omega) (by omega)) rfl ?_
          refine O.p (Pu.fieldAddr (off' := voff lv + (a).toNat * 14 + 13) Try.runUnderlying104 rfl Try.sizeOf102 rfl rfl rfl) rfl ?_
          refine O.q (Qt.ld rfl (Cel.eltM (Src.ro 0 rfl) he13) (o := (voff lv + ((a).toNat) * 14)) (off := 13) (by omega) (Cut.one Try.isAgg102 rfl)) rfl ?_
          refine O.q (Qt.lenM Try.runUnderlying102 rfl (Src.ro 2 rfl)) rfl ?_
          refine O.p (Pu.lss rfl rfl) rfl ?_
          refine O.nil ?_
          refine J.cond rfl (fun h15 => ?_) (fun h15 => ?_)
          ·
            have p16 := of_decide_eq_true h15
            refine J.skip ?_
            refine J.seq ?_
            refine J.block ?_
            refine J.seq ?_
            refine J.region ?_
            refine O.p (Pu.move rfl) rfl ?_
            refine O.p (Pu.move rfl) rfl ?_
            refine O.q (Qt.idxM Try.runUnderlying70 Try.sizeOf104 rfl (Src.ro 0 rfl) rfl (by omega) (by omega)) rfl ?_
            refine O.p (Pu.fieldAddr (off' := voff lv + (a).toNat * 14 + 13) Try.runUnderlying104 rfl Try.sizeOf102 rfl rfl rfl) rfl ?_
            refine O.q (Qt.ld rfl (Cel.eltM (Src.ro 0 rfl) he13) (o := (voff lv + ((a).toNat) * 14)) (off := 13) (by omega) (Cut.one Try.isAgg102 rfl)) rfl ?_
            refine O.p (Pu.move rfl) rfl ?_
            obtain ⟨e17, he17⟩ : ∃ x_, e13.cl[k]? = some x_ := ⟨_, List.getElem?_eq_getElem (by omega)⟩
            refine O.q (Qt.idxM Try.runUnderlying102 Try.sizeOf106 rfl (Src.ro 2 rfl) rfl (by omega) (by omega)) rfl ?_
            refine O.p (Pu.fieldAddr (off' := voff e13.cv + ((k : Int)).toNat * 4 + 0) Try.runUnderlying106 rfl Try.sizeOf3 rfl rfl rfl) rfl ?_
            refine O.q (Qt.ld rfl (Cel.eltM (Src.ro 2 rfl) he17) (o := (voff e13.cv + k * 4)) (off := 0) (by omega) (Cut.one Try.isAgg3 rfl)) rfl ?_
            refine O.p (Pu.move rfl) rfl ?_
            refine O.p (Pu.eql rfl rfl) rfl ?_
            refine O.nil ?_
            refine J.cond rfl (fun h18 => ?_) (fun h18 => ?_)
            ·
              have p19 := of_decide_eq_true h18
              refine J.seq ?_
              refine J.region ?_
              refine O.p (Pu.assign rfl) rfl ?_
              refine O.nil ?_
              exact J.ret (Fin.ret (rs := [.tmp 6]) rfl [_] ⟨rfl, trivial⟩ [] (by decide) [] rfl ⟨(by rw [Gr.calls_in (g := (gOf l)) (a := a) (b := b) (by omega) (gOf_at he13), decide_eq_true (Jb.has_hit he17 (by assumption))]; rfl), rfl⟩)
            ·
              have p20 := of_decide_eq_false h18
              refine J.skip ?_
              refine J.blk ?_
              refine J.region ?_
              refine O.p (Pu.move rfl) rfl ?_
              refine O.p (Pu.add' rfl rfl (by first | omega | (simp only [List.length_append, List.length_cons, List.length_nil, List.length_set]; omega))) rfl ?_
              refine O.p (Pu.assign rfl) rfl ?_
              refine O.nil ?_
              exact J.lp (k + 1) (show (k + 1) ≤ e13.cl.length ∧ b ∉ e13.cl.take (k + 1) from ⟨by omega, Jb.has_next hno he17 (by assumption)⟩) (show e13.cl.length - (k + 1) < e13.cl.length - k from (by omega)) ⟨rfl, rfl, rfl, (congrArg (fun z => some (Value.int .i64 z)) (by first | rfl | omega : ((k : Int) + 1 : Int) = ((k + 1) : Int))), trivial⟩ [] (by decide) rfl
          ·
            have p21 := of_decide_eq_false h15
            refine J.exit _ rfl ?_
            refine J.seq ?_
            refine J.region ?_
            refine O.p (Pu.assign rfl) rfl ?_
            refine O.nil ?_
            exact J.ret (Fin.ret (rs := [.tmp 6]) rfl [_] ⟨rfl, trivial⟩ [] (by decide) [] rfl ⟨(by rw [Gr.calls_in (g := (gOf l)) (a := a) (b := b) (by omega) (gOf_at he13), decide_eq_false (Jb.has_miss hno (by omega))]; rfl), rfl⟩)

set_option maxRecDepth 100000 in
theorem r29_has (lv : Value) (l : List Int) (n : Int) (hl : l.length ≤ 100000) : Tri Try.prog 65 #[lv, .int .i64 n] [rd lv 1 (l.map encZ)] [] (fun v L' => v = .bool (decide (n ∈ l)) ∧ L' = []) := by
  refine Tri.enter (args := [lv, .int .i64 n]) (body := _) 18 Try.func65 rfl Try.ntmps65 rfl ?_
  intro w0
  refine J.seq ?_
  refine J.region ?_
  refine O.p (Pu.assign rfl) rfl ?_
  refine O.nil ?_
  refine J.seq ?_
  refine J.seq ?_
  refine J.region ?_
  refine O.p (Pu.assign rfl) rfl ?_
  refine O.nil ?_
  refine J.block ?_
  refine J.loop (X := Nat) (fun ξ => ξ ≤ l.length ∧ n ∉ l.take ξ) (fun ξ => [(0, lv), (1, .int .i64 n), (5, .int .i64 (ξ : Int))]) (fun ξ => []) (fun ξ => l.length - ξ) 0 (show 0 ≤ l.length ∧ n ∉ l.take 0 from ⟨by omega, by simp⟩) ⟨rfl, rfl, (congrArg (fun z => some (Value.int .i64 z)) (by first | rfl | omega : (0 : Int) = (0 : Int))), trivial⟩ [] (by decide) rfl ?_
  rintro k hq1
  obtain ⟨hk, hno⟩ : k ≤ l.length ∧ n ∉ l.take k := hq1
  show J _ _ [(0, lv), (1, .int .i64 n), (5, .int .i64 (k : Int))] []
  refine J.seq ?_
  refine J.seq ?_
  refine J.region ?_
  refine O.p (Pu.move rfl) rfl ?_
  refine O.p (Pu.move rfl) rfl ?_
  refine O.q (Qt.lenM Try.runUnderlying24 rfl (Src.ro 0 rfl)) rfl ?_
  refine O.p (Pu.lss rfl rfl) rfl ?_
  refine O.nil ?_
  refine J.cond rfl (fun h2 => ?_) (fun h2 => ?_)
  ·
    have p3 := of_decide_eq_true h2
    refine J.skip ?_
    refine J.seq ?_
    refine J.block ?_
    refine J.seq ?_
    refine J.region ?_
    refine O.p (Pu.move rfl) rfl ?_
    refine O.p (Pu.move rfl) rfl ?_
    obtain ⟨e4, he4⟩ : ∃ x_, l[k]? = some x_ := ⟨_, List.getElem?_eq_getElem (by omega)⟩
    refine O.q (Qt.idxM Try.runUnderlying24 Try.sizeOf3 rfl (Src.ro 0 rfl) rfl (by omega) (by omega)) rfl ?_
    refine O.q (Qt.ld rfl (Cel.eltM (Src.ro 0 rfl) he4) (o := (voff lv + k * 1)) (off := 0) (by omega) (Cut.one Try.isAgg3 rfl)) rfl ?_
    refine O.p (Pu.move rfl) rfl ?_
    refine O.p (Pu.eql rfl rfl) rfl ?_
    refine O.nil ?_
    refine J.cond rfl (fun h5 => ?_) (fun h5 => ?_)
    ·
      have p6 := of_decide_eq_true h5
      refine J.seq ?_
      refine J.region ?_
      refine O.p (Pu.assign rfl) rfl ?_
      refine O.nil ?_
      exact J.ret (Fin.ret (rs := [.tmp 4]) rfl [_] ⟨rfl, trivial⟩ [] (by decide) [] rfl ⟨(by simp only [vOf]; rw [decide_eq_true (Jb.has_hit he4 (by assumption))]), rfl⟩)
    ·
      have p7 := of_decide_eq_false h5
      refine J.skip ?_
      refine J.blk ?_
      refine J.region ?_
      refine O.p (Pu.move rfl) rfl ?_
      refine O.p (Pu.add' rfl rfl (by first | omega | (simp only [List.length_append, List.length_cons, List.length_nil, List.length_set]; omega))) rfl ?_
      refine O.p (Pu.assign rfl) rfl ?_
      refine O.nil ?_
      exact J.lp (k + 1) (show (k + 1) ≤ l.length ∧ n ∉ l.take (k + 1) from ⟨by omega, Jb.has_next hno he4 (by assumption)⟩) (show l.length - (k + 1) < l.length - k from (by omega)) ⟨rfl, rfl, (congrArg (fun z => some (Value.int .i64 z)) (by first | rfl | omega : ((k : Int) + 1 : Int) = ((k + 1) : Int))), trivial⟩ [] (by decide) rfl
  ·
    have p8 := of_decide_eq_false h2
    refine J.exit _ rfl ?_
    refine J.seq ?_
    refine J.region ?_
    refine O.p (Pu.assign rfl) rfl ?_
    refine O.nil ?_
    exact J.ret (Fin.ret (rs := [.tmp 4]) rfl [_] ⟨rfl, trivial⟩ [] (by decide) [] rfl ⟨(by simp only [vOf]; rw [decide_eq_false (Jb.has_miss hno (by omega))]), rfl⟩)

set_option maxRecDepth 100000 in
theorem r29_Callers (lv : Value) (l : List Sg) (b : Int) (hl : l.length ≤ 1000) (hc : ∀ s ∈ l, s.cl.length ≤ 1000) : Tri Try.prog 46 #[lv, .int .i64 b] [rd lv 14 (l.map Sg.cells), ros (l.map Sg.rd)] [] (fun v L' => L' = [row v 3 1 ((Gr.callers (gOf l) b).map encZ)]) := by
  have hgl := gOf_len (l := l)
  refine Tri.enter (args := [lv, .int .i64 b]) (body := _) 22 Try.func46 rfl Try.ntmps46 rfl ?_
  intro w0
  refine J.seq ?_
  refine J.region ?_
  refine O.p (Pu.assign rfl) rfl ?_
  refine O.nil ?_
  refine J.seq ?_
  refine J.region ?_
  refine O.p (Pu.assign rfl) rfl ?_
  refine O.nil ?_
  refine J.seq ?_
  refine J.seq ?_
  refine J.region ?_
  refine O.p (Pu.assign rfl) rfl ?_
  refine O.nil ?_
  refine J.block ?_
  refine J.nilRow 3 1 ?_
  refine J.loop (X := Nat × Value × List Int) (fun ξ => ξ.1 ≤ l.length ∧ ξ.2.2 = Gr.callersK (gOf l) b ξ.1 ∧ ξ.2.2.length ≤ ξ.1) (fun ξ => [(0, lv), (1, .int .i64 b), (4, Value.slice none 0 0), (5, ξ.2.1), (6, .int .i64 (ξ.1 : Int))]) (fun ξ => [row ξ.2.1 3 1 (ξ.2.2.map encZ)]) (fun ξ => l.length - ξ.1) ⟨0, Value.slice none 0 0, []⟩ (show 0 ≤ l.length ∧ ([]) = Gr.callersK (gOf l) b 0 ∧ ([]).length ≤ 0 from ⟨by omega, rfl, by simp⟩) ⟨rfl, rfl, rfl, rfl, (congrArg (fun z => some (Value.int .i64 z)) (by first | rfl | omega : (0 : Int) = (0 : Int))), trivial⟩ [0] (by decide) rfl ?_
  rintro ⟨k, V, o⟩ hq1
  obtain ⟨hk, hst, hlen⟩ : k ≤ l.length ∧ o = Gr.callersK (gOf l) b k ∧ o.length ≤ k := hq1
  show J _ _ [(0, lv), (1, .int .i64 b), (4, Value.slice none 0 0), (5, V), (6, .int .i64 (k : Int))] [row V 3 1 (o.map encZ)]
  refine J.seq ?_
  refine J.seq ?_
  refine J.region ?_
  refine O.p (Pu.move rfl) rfl ?_
  refine O.p (Pu.move rfl) rfl ?_
  refine O.q (Qt.lenM Try.runUnderlying70 rfl (Src.ro 0 rfl)) rfl ?_
  refine O.p (Pu.lss rfl rfl) rfl ?_
  refine O.nil ?_
  refine J.cond rfl (fun h2 => ?_) (fun h2 => ?_)
  ·
    have p3 := of_decide_eq_true h2
    refine J.skip ?_
    refine J.seq ?_
    refine J.block ?_
    refine J.seq ?_
    refine J.region ?_
    refine O.p (Pu.move rfl) rfl ?_
    refine O.p (Pu.move rfl) rfl ?_
    refine O.p (Pu.move rfl) rfl ?_
    refine O.l (Lo.call [lv, .int .i64 (k : Int), .int .i64 b] (by exact Try.call50) rfl (r29_Calls lv l (k : Int) b hl hc) [] [0] (by decide) rfl [row V 3 1 (o.map encZ)] rfl (RoOk.ro 0 rfl [] rfl (RoOk.ro 1 rfl [] rfl RoOk.nil))) rfl ?_
    rintro _ _ ⟨_, ⟨rfl, rfl⟩, rfl⟩
    refine O.nil ?_
    refine J.cond rfl (fun h5 => ?_) (fun h5 => ?_)
    ·
      refine J.region ?_
      refine O.p (Pu.move rfl) rfl ?_
      refine O.p (Pu.move rfl) rfl ?_
      refine O.l (Lo.buildM (s := 1) encZ [(k : Int)] [(0, .int .i64 (k : Int))] (by exact Try.runUnderlying24) (by exact Try.sizeOf3) (by exact Try.zeroValue3) rfl rfl rfl (by kernel_rfl) rfl rfl) rfl ?_
      rintro V6 _ rfl
      refine O.l (Lo.appendM (s := 1) 1 (by exact Try.underlying24) (by exact (info3).1) (by exact (info3).2.1) (by exact (info3).2.2.1) (by exact (info3).2.2.2) rfl rfl rfl rfl rfl (Src.row 0 rfl) encZ.one (by first | omega | (simp only [List.length_append, List.length_cons, List.length_nil]; omega) | (have h_ := Gr.called_len (g := (gOf l)) (f := (k : Int)); omega)) (by first | omega | (simp only [List.length_append, List.length_cons, List.length_nil]; omega) | (have h_ := Gr.called_len (g := (gOf l)) (f := (k : Int)); omega))) rfl ?_
      rintro V7 _ rfl
      refine O.p (Pu.assign rfl) rfl ?_
      refine O.nil ?_
      refine J.blk ?_
      refine J.region ?_
      refine O.p (Pu.move rfl) rfl ?_
      refine O.p (Pu.add' rfl rfl (by first | omega | (simp only [List.length_append, List.length_cons, List.length_nil, List.length_set]; omega))) rfl ?_
      refine O.p (Pu.assign rfl) rfl ?_
      refine O.nil ?_
      exact J.lp ⟨k + 1, V7, o ++ ([(k : Int)])⟩ (show (k + 1) ≤ l.length ∧ (o ++ ([(k : Int)])) = Gr.callersK (gOf l) b (k + 1) ∧ (o ++ ([(k : Int)])).length ≤ (k + 1) from ⟨by omega, (by rw [hst]; first | exact (Gr.callersK_yes (by assumption)).symm | exact (Gr.callersK_no (by assumption)).symm), (by first | omega | (simp only [List.length_append, List.length_cons, List.length_nil]; omega))⟩) (show l.length - (k + 1) < l.length - k from (by first | omega | (simp only [List.length_append, List.length_cons, List.length_nil]; omega) | (have h_ := Gr.called_len (g := (gOf l)) (f := (k : Int)); omega))) ⟨rfl, rfl, rfl, rfl, (congrArg (fun z => some (Value.int .i64 z)) (by first | rfl | omega : ((k : Int) + 1 : Int) = ((k + 1) : Int))), trivial⟩ [1] (by decide) rfl
    ·
      refine J.skip ?_
      refine J.blk ?_
      refine J.region ?_
      refine O.p (Pu.move rfl) rfl ?_
      refine O.p (Pu.add' rfl rfl (by first | omega | (simp only [List.length_append, List.length_cons, List.length_nil, List.length_set]; omega))) rfl ?_
      refine O.p (Pu.assign rfl) rfl ?_
      refine O.nil ?_
      exact J.lp ⟨k + 1, V, o⟩ (show (k + 1) ≤ l.length ∧ o = Gr.callersK (gOf l) b (k + 1) ∧ o.length ≤ (k + 1) from ⟨by omega, (by rw [hst]; first | exact (Gr.callersK_yes (by assumption)).symm | exact (Gr.callersK_no (by assumption)).symm), (by first | omega | (simp only [List.length_append, List.length_cons, List.length_nil]; omega))⟩) (show l.length - (k + 1) < l.length - k from (by first | omega | (simp only [List.length_append, List.length_cons, List.length_nil]; omega) | (have h_ := Gr.called_len (g := (gOf l)) (f := (k : Int)); omega))) ⟨rfl, rfl, rfl, rfl, (congrArg (fun z => some (Value.int .i64 z)) (by first | rfl | omega : ((k : Int) + 1 : Int) = ((k + 1) : Int))), trivial⟩ [0] (by decide) rfl
  ·
    have p8 := of_decide_eq_false h2
    refine J.exit _ rfl ?_
    refine J.seq ?_
    refine J.region ?_
    refine O.p (Pu.move rfl) rfl ?_
    refine O.p (Pu.assign rfl) rfl ?_
    refine O.nil ?_
    exact J.ret (Fin.ret (rs := [.tmp 4]) rfl [_] ⟨rfl, trivial⟩ [0] (by decide) [row V 3 1 (o.map encZ)] rfl (congrArg (fun (z : List Int) => ([row V 3 1 (z.map encZ)] : List Sp)) (show o = Gr.callers (gOf l) b from (by rw [hst]; exact congrArg (Gr.callersK (gOf l) b) (show k = (gOf l).length from by omega)))))

set_option maxRecDepth 100000 in
theorem r29_free (lv : Value) (l : List Sg) (rv : Value) (ur : List Int) (b : Int) (hl : l.length ≤ 1000) (hc : ∀ s ∈ l, s.cl.length ≤ 1000) (hr : ur.length ≤ 1000) : Tri Try.prog 66 #[lv, rv, .int .i64 b] [rd lv 14 (l.map Sg.cells), ros (l.map Sg.rd), rd rv 1 (ur.map encZ)] [] (fun v L' => v = .bool (Gr.freeB (gOf l) ur b) ∧ L' = []) := by
  have hgl := gOf_len (l := l)
  refine Tri.enter (args := [lv, rv, .int .i64 b]) (body := _) 25 Try.func66 rfl Try.ntmps66 rfl ?_
  intro w0
  refine J.seq ?_
  refine J.region ?_
  refine O.p (Pu.assign rfl) rfl ?_
  refine O.nil ?_
  refine J.seq ?_
  refine J.region ?_
  refine O.p (Pu.move rfl) rfl ?_
  refine O.p (Pu.move rfl) rfl ?_
  refine O.l (Lo.call [lv, .int .i64 b] (by exact Try.call46) rfl (r29_Callers lv l b hl hc) [] [] (by decide) rfl [] rfl (RoOk.ro 0 rfl [] rfl (RoOk.ro 1 rfl [] rfl RoOk.nil))) rfl ?_
  rintro v1 _ ⟨_, rfl, rfl⟩
  refine O.p (Pu.assign rfl) rfl ?_
  refine O.nil ?_
  refine J.seq ?_
  refine J.seq ?_
  refine J.region ?_
  refine O.p (Pu.assign rfl) rfl ?_
  refine O.nil ?_
  refine J.block ?_
  refine J.loop (X := Nat) (fun ξ => ξ ≤ (Gr.callers (gOf l) b).length ∧ (((Gr.callers (gOf l) b).take ξ).all fun c => decide (c ∈ ur)) = true) (fun ξ => [(1, rv), (7, v1), (8, .int .i64 (ξ : Int))]) (fun ξ => [row v1 3 1 ((Gr.callers (gOf l) b).map encZ)]) (fun ξ => (Gr.callers (gOf l) b).length - ξ) 0 (show 0 ≤ (Gr.callers (gOf l) b).length ∧ (((Gr.callers (gOf l) b).take 0).all fun c => decide (c ∈ ur)) = true from ⟨by omega, rfl⟩) ⟨rfl, rfl, (congrArg (fun z => some (Value.int .i64 z)) (by first | rfl | omega : (0 : Int) = (0 : Int))), trivial⟩ [0] (by decide) rfl ?_
  rintro k hq2
  obtain ⟨hk, hst⟩ : k ≤ (Gr.callers (gOf l) b).length ∧ (((Gr.callers (gOf l) b).take k).all fun c => decide (c ∈ ur)) = true := hq2
  show J _ _ [(1, rv), (7, v1), (8, .int .i64 (k : Int))] [row v1 3 1 ((Gr.callers (gOf l) b).map encZ)]
  refine J.seq ?_
  refine J.seq ?_
  refine J.region ?_
  refine O.p (Pu.move rfl) rfl ?_
  refine O.p (Pu.move rfl) rfl ?_
  refine O.q (Qt.lenM Try.runUnderlying24 rfl (Src.row 0 rfl)) rfl ?_
  refine O.p (Pu.lss rfl rfl) rfl ?_
  refine O.nil ?_
  refine J.cond rfl (fun h3 => ?_) (fun h3 => ?_)
  ·
    have p4 := of_decide_eq_true h3
    refine J.skip ?_
    refine J.seq ?_
    refine J.block ?_
    refine J.seq ?_
    refine J.region ?_
    refine O.p (Pu.move rfl) rfl ?_
    refine O.p (Pu.move rfl) rfl ?_
    refine O.p (Pu.move rfl) rfl ?_
    obtain ⟨e5, he5⟩ : ∃ x_, (Gr.callers (gOf l) b)[k]? = some x_ := ⟨_, List.getElem?_eq_getElem (by first | omega | (have h_ := Gr.callers_len (g := (gOf l)) (b := b); omega))⟩
    refine O.q (Qt.idxM Try.runUnderlying24 Try.sizeOf3 rfl (Src.row 0 rfl) rfl (by first | omega | (have h_ := Gr.callers_len (g := (gOf l)) (b := b); omega)) (by first | omega | (have h_ := Gr.callers_len (g := (gOf l)) (b := b); omega))) rfl ?_
    refine O.q (Qt.ld rfl (Cel.eltM (Src.row 0 rfl) he5) (o := (voff v1 + k * 1)) (off := 0) (by omega) (Cut.one Try.isAgg3 rfl)) rfl ?_
    refine O.l (Lo.call [rv, .int .i64 e5] (by exact Try.call65) rfl (r29_has rv ur e5 (by omega)) [] [0] (by decide) rfl [row v1 3 1 ((Gr.callers (gOf l) b).map encZ)] rfl (RoOk.ro 2 rfl [] rfl RoOk.nil)) rfl ?_
    rintro _ _ ⟨_, ⟨rfl, rfl⟩, rfl⟩
    refine O.p (Pu.not rfl) rfl ?_
    refine O.nil ?_
    refine J.cond rfl (fun h7 => ?_) (fun h7 => ?_)
    ·
      have h8 : (decide (e5 ∈ ur)) = false := not_flip h7
      have p9 := of_decide_eq_false h8
      refine J.seq ?_
      refine J.region ?_
      refine O.p (Pu.assign rfl) rfl ?_
      refine O.nil ?_
      exact J.ret (Fin.ret (rs := [.tmp 6]) rfl [_] ⟨rfl, trivial⟩ [] (by decide) [] rfl ⟨(by rw [Gr.freeB, Gr.all_not he5 (by assumption)]; rfl), rfl⟩)
    ·
      have h10 : (decide (e5 ∈ ur)) = true := not_flip h7
      have p11 := of_decide_eq_true h10
      refine J.skip ?_
      refine J.blk ?_
      refine J.region ?_
      refine O.p (Pu.move rfl) rfl ?_
      refine O.p (Pu.add' rfl rfl (by have h_ := Gr.callers_len (g := (gOf l)) (b := b); omega)) rfl ?_
      refine O.p (Pu.assign rfl) rfl ?_
      refine O.nil ?_
      exact J.lp (k + 1) (show (k + 1) ≤ (Gr.callers (gOf l) b).length ∧ (((Gr.callers (gOf l) b).take (k + 1)).all fun c => decide (c ∈ ur)) = true from ⟨by omega, Gr.all_take hst he5 (by assumption)⟩) (show (Gr.callers (gOf l) b).length - (k + 1) < (Gr.callers (gOf l) b).length - k from (by first | omega | (have h_ := Gr.callers_len (g := (gOf l)) (b := b); omega))) ⟨rfl, rfl, (congrArg (fun z => some (Value.int .i64 z)) (by first | rfl | omega : ((k : Int) + 1 : Int) = ((k + 1) : Int))), trivial⟩ [0] (by decide) rfl
  ·
    have p12 := of_decide_eq_false h3
    refine J.exit _ rfl ?_
    refine J.seq ?_
    refine J.region ?_
    refine O.p (Pu.assign rfl) rfl ?_
    refine O.nil ?_
    exact J.ret (Fin.ret (rs := [.tmp 6]) rfl [_] ⟨rfl, trivial⟩ [] (by decide) [] rfl ⟨(by rw [List.take_of_length_le (by omega)] at hst; rw [Gr.freeB, hst]; rfl), rfl⟩)

end Go.Proofs.Ytnkhmbbnabejhaa

namespace Go.Proofs.Ytnkhmbbnabejhaa
open Go Go.LK
set_option linter.unusedSimpArgs false

set_option maxRecDepth 100000 in
set_option maxHeartbeats 1000000 in
theorem r29_Reach (lv : Value) (l : List Sg) (f : Nat) (hl : l.length ≤ 1000) (hc : ∀ s ∈ l, s.cl.length ≤ 1000) : Tri Try.prog 48 #[lv, .int .i64 (f : Int)] [rd lv 14 (l.map Sg.cells), ros (l.map Sg.rd)] [] (fun v L' => L' = [row v 3 1 ((Gr.reachL (gOf l) f).map encZ)]) := by
  have hgl := gOf_len (l := l)
  refine Tri.enter (args := [lv, .int .i64 (f : Int)]) (body := _) 65 Try.func48 rfl Try.ntmps48 rfl ?_
  intro w0
  refine J.seq ?_
  refine J.region ?_
  refine O.p (Pu.assign rfl) rfl ?_
  refine O.nil ?_
  refine J.seq ?_
  refine J.region ?_
  refine O.p (Pu.move rfl) rfl ?_
  refine O.q (Qt.lenM Try.runUnderlying70 rfl (Src.ro 0 rfl)) rfl ?_
  refine O.l (Lo.makeSliceN (z := (false : Bool)) (f := encBo) (m := l.length) (s := 1) (bytes := 1) (by exact Try.runUnderlying33) (fun w => run_typeInfo w (by exact (info4).1)) (by exact (info4).2.2.2) (by exact Try.sizeOf4) (by exact Try.zeroValue4) rfl rfl (by omega) (by omega) (by decide) rfl rfl (by decide) rfl) rfl ?_
  rintro V1 _ rfl
  refine O.p (Pu.assign rfl) rfl ?_
  refine O.nil ?_
  refine J.seq ?_
  refine J.seq ?_
  refine J.region ?_
  refine O.p (Pu.assign rfl) rfl ?_
  refine O.nil ?_
  refine J.block ?_
  refine J.loop (X := Nat × List Bool) (fun ξ => ξ.1 ≤ l.length ∧ Gr.RO (gOf l) f ξ.2 ξ.1) (fun ξ => [(0, lv), (1, .int .i64 (f : Int)), (4, Value.slice none 0 0), (5, V1), (6, .int .i64 (ξ.1 : Int))]) (fun ξ => [row V1 4 1 (ξ.2.map encBo)]) (fun ξ => l.length - ξ.1) ⟨0, List.replicate l.length (false : Bool)⟩ (show 0 ≤ l.length ∧ Gr.RO (gOf l) f (List.replicate l.length (false : Bool)) 0 from ⟨by omega, by rw [← hgl]; exact Gr.RO.zero⟩) ⟨rfl, rfl, rfl, rfl, (congrArg (fun z => some (Value.int .i64 z)) (by first | rfl | omega : (0 : Int) = (0 : Int))), trivial⟩ [0] (by decide) rfl ?_
  rintro ⟨r, m⟩ hq2
  obtain ⟨hr, h0⟩ : r ≤ l.length ∧ Gr.RO (gOf l) f m r := hq2
  show J _ _ [(0, lv), (1, .int .i64 (f : Int)), (4, Value.slice none 0 0), (5, V1), (6, .int .i64 (r : Int))] [row V1 4 1 (m.map encBo)]
  refine J.seq ?_
  refine J.seq ?_
  refine J.region ?_
  refine O.p (Pu.move rfl) rfl ?_
  refine O.p (Pu.move rfl) rfl ?_
  refine O.q (Qt.lenM Try.runUnderlying70 rfl (Src.ro 0 rfl)) rfl ?_
  refine O.p (Pu.lss rfl rfl) rfl ?_
  refine O.nil ?_
  refine J.cond rfl (fun h3 => ?_) (fun h3 => ?_)
  ·
    have p4 := of_decide_eq_true h3
    refine J.skip ?_
    refine J.seq ?_
    refine J.block ?_
    refine J.seq ?_
    refine J.region ?_
    refine O.p (Pu.assign rfl) rfl ?_
    refine O.nil ?_
    refine J.block ?_
    refine J.loop (X := Nat × List Bool) (fun ξ => ξ.1 ≤ l.length ∧ Gr.RI (gOf l) f m ξ.2 ξ.1 0) (fun ξ => [(0, lv), (1, .int .i64 (f : Int)), (4, Value.slice none 0 0), (5, V1), (6, .int .i64 (r : Int)), (7, .int .i64 (ξ.1 : Int))]) (fun ξ => [row V1 4 1 (ξ.2.map encBo)]) (fun ξ => l.length - ξ.1) ⟨0, m⟩ (show 0 ≤ l.length ∧ Gr.RI (gOf l) f m m 0 0 from ⟨by omega, h0.begin⟩) ⟨rfl, rfl, rfl, rfl, rfl, (congrArg (fun z => some (Value.int .i64 z)) (by first | rfl | omega : (0 : Int) = (0 : Int))), trivial⟩ [0] (by decide) rfl ?_
    rintro ⟨t, m2⟩ hq5
    obtain ⟨ht, hm⟩ : t ≤ l.length ∧ Gr.RI (gOf l) f m m2 t 0 := hq5
    show J _ _ [(0, lv), (1, .int .i64 (f : Int)), (4, Value.slice none 0 0), (5, V1), (6, .int .i64 (r : Int)), (7, .int .i64 (t : Int))] [row V1 4 1 (m2.map encBo)]
    refine J.seq ?_
    refine J.seq ?_
    refine J.region ?_
    refine O.p (Pu.move rfl) rfl ?_
    refine O.p (Pu.move rfl) rfl ?_
    refine O.q (Qt.lenM Try.runUnderlying70 rfl (Src.ro 0 rfl)) rfl ?_
    refine O.p (Pu.lss rfl rfl) rfl ?_
    refine O.nil ?_
    refine J.cond rfl (fun h6 => ?_) (fun h6 => ?_)
    ·
      have p7 := of_decide_eq_true h6
      refine J.skip ?_
      refine J.seq ?_
      refine J.block ?_
      refine J.seq ?_
      refine J.region ?_
      refine O.p (Pu.assign rfl) rfl ?_
      refine O.nil ?_
      refine J.block ?_
      refine J.loop (X := Nat × List Bool) (fun ξ => ξ.1 ≤ l.length ∧ Gr.RI (gOf l) f m ξ.2 t ξ.1) (fun ξ => [(0, lv), (1, .int .i64 (f : Int)), (4, Value.slice none 0 0), (5, V1), (6, .int .i64 (r : Int)), (7, .int .i64 (t : Int)), (8, .int .i64 (ξ.1 : Int))]) (fun ξ => [row V1 4 1 (ξ.2.map encBo)]) (fun ξ => l.length - ξ.1) ⟨0, m2⟩ (show 0 ≤ l.length ∧ Gr.RI (gOf l) f m m2 t 0 from ⟨by omega, hm⟩) ⟨rfl, rfl, rfl, rfl, rfl, rfl, (congrArg (fun z => some (Value.int .i64 z)) (by first | rfl | omega : (0 : Int) = (0 : Int))), trivial⟩ [0] (by decide) rfl ?_
      rintro ⟨k, m3⟩ hq8
      obtain ⟨hk, hi⟩ : k ≤ l.length ∧ Gr.RI (gOf l) f m m3 t k := hq8
      show J _ _ [(0, lv), (1, .int .i64 (f : Int)), (4, Value.slice none 0 0), (5, V1), (6, .int .i64 (r : Int)), (7, .int .i64 (t : Int)), (8, .int .i64 (k : Int))] [row V1 4 1 (m3.map encBo)]
      refine J.seq ?_
      refine J.seq ?_
      refine J.region ?_
      refine O.p (Pu.move rfl) rfl ?_
      refine O.p (Pu.move rfl) rfl ?_
      refine O.q (Qt.lenM Try.runUnderlying70 rfl (Src.ro 0 rfl)) rfl ?_
      refine O.p (Pu.lss rfl rfl) rfl ?_
      refine O.nil ?_
      refine J.cond rfl (fun h9 => ?_) (fun h9 => ?_)
      ·
        have p10 := of_decide_eq_true h9
        refine J.skip ?_
        refine J.seq ?_
        refine J.block ?_
        refine J.seq ?_
        obtain ⟨e11, he11⟩ : ∃ x_, m3[k]? = some x_ := ⟨_, List.getElem?_eq_getElem (by first | omega | (have h_ := hi.len; omega) | (have h_ := h0.len; omega) | (simp only [List.length_append, List.length_cons, List.length_nil]; omega))⟩
        refine J.region ?_
        refine O.p (Pu.move rfl) rfl ?_
        refine O.p (Pu.move rfl) rfl ?_
        refine O.p (Pu.move rfl) rfl ?_
        refine O.l (Lo.call [lv, .int .i64 (k : Int), .int .i64 (t : Int)] (by exact Try.call50) rfl (r29_Calls lv l (k : Int) (t : Int) hl hc) [] [0] (by decide) rfl [row V1 4 1 (m3.map encBo)] rfl (RoOk.ro 0 rfl [] rfl (RoOk.ro 1 rfl [] rfl RoOk.nil))) rfl ?_
        rintro _ _ ⟨_, ⟨rfl, rfl⟩, rfl⟩
        refine O.p (Pu.move rfl) rfl ?_
        refine by_bool (Gr.calls (gOf l) (k : Int) (t : Int)) (fun h13 => ?_) (fun h13 => ?_)
        ·
          refine O.gq (t := 36) rfl rfl h13 rfl (Pu.qt (Pu.move rfl)) rfl ?_
          refine O.gq (t := 36) rfl rfl h13 rfl (Pu.qt (Pu.move rfl)) rfl ?_
          refine O.gq (t := 36) rfl rfl h13 rfl (Pu.qt (Pu.eql rfl rfl)) rfl ?_
          refine O.gq (t := 36) rfl rfl h13 rfl (Pu.qt (Pu.move rfl)) rfl ?_
          refine by_bool (decide ((k : Int) = (f : Int))) (fun h14 => ?_) (fun h14 => ?_)
          ·
            have p15 := of_decide_eq_true h14
            refine O.gskip (t := 40) rfl rfl (no_bool (by rw [h14]; decide)) rfl rfl ?_
            refine O.gskip (t := 40) rfl rfl (no_bool (by rw [h14]; decide)) rfl rfl ?_
            refine O.gskip (t := 40) rfl rfl (no_bool (by rw [h14]; decide)) rfl rfl ?_
            refine O.gskip (t := 40) rfl rfl (no_bool (by rw [h14]; decide)) rfl rfl ?_
            refine O.gq (t := 36) rfl rfl h13 rfl (Pu.qt (Pu.pickT rfl h14 rfl)) rfl ?_
            refine O.p (Pu.pickT rfl h13 rfl) rfl ?_
            refine O.nil ?_
            refine J.condT rfl rfl ?_
            refine J.region ?_
            refine O.p (Pu.move rfl) rfl ?_
            refine O.p (Pu.move rfl) rfl ?_
            obtain ⟨e16, he16⟩ : ∃ x_, m3[t]? = some x_ := ⟨_, List.getElem?_eq_getElem (by first | omega | (have h_ := hi.len; omega) | (have h_ := h0.len; omega) | (simp only [List.length_append, List.length_cons, List.length_nil]; omega))⟩
            refine O.q (Qt.idxM Try.runUnderlying33 Try.sizeOf4 rfl (Src.row 0 rfl) rfl (by first | omega | (have h_ := hi.len; omega) | (have h_ := h0.len; omega) | (simp only [List.length_append, List.length_cons, List.length_nil]; omega)) (by first | omega | (have h_ := hi.len; omega) | (have h_ := h0.len; omega) | (simp only [List.length_append, List.length_cons, List.length_nil]; omega))) rfl ?_
            refine O.l0 (Lo.storeM 0 (j := t) (off := 0) (vs := [.bool true]) (e := [.bool e16]) true rfl rfl rfl rfl (by omega) he16 rfl (by exact Try.sizeOf4) rfl rfl rfl rfl rfl) ?_
            rintro _ _ rfl
            have hs17 : (m3.set t true)[t]? = some true := List.getElem?_set_self (List.getElem?_eq_some_iff.1 he16).1
            refine O.nil ?_
            refine J.blk ?_
            refine J.region ?_
            refine O.p (Pu.move rfl) rfl ?_
            refine O.p (Pu.add' rfl rfl (by first | omega | (simp only [List.length_append, List.length_cons, List.length_nil, List.length_set]; omega))) rfl ?_
            refine O.p (Pu.assign rfl) rfl ?_
            refine O.nil ?_
            exact J.lp ⟨k + 1, m3.set t true⟩ (show (k + 1) ≤ l.length ∧ Gr.RI (gOf l) f m (m3.set t true) t (k + 1) from ⟨by omega, hi.mark (by rw [← Gr.calls_e]; exact h13) (.inl (by omega))⟩) (show l.length - (k + 1) < l.length - k from (by first | omega | (have h_ := hi.len; omega) | (have h_ := h0.len; omega) | (simp only [List.length_append, List.length_cons, List.length_nil]; omega))) ⟨rfl, rfl, rfl, rfl, rfl, rfl, (congrArg (fun z => some (Value.int .i64 z)) (by first | rfl | omega : ((k : Int) + 1 : Int) = ((k + 1) : Int))), trivial⟩ [0] (by decide) rfl
          ·
            have p18 := of_decide_eq_false h14
            refine O.gq (t := 40) rfl rfl h14 rfl (Pu.qt (Pu.move rfl)) rfl ?_
            refine O.gq (t := 40) rfl rfl h14 rfl (Pu.qt (Pu.move rfl)) rfl ?_
            refine O.gq (t := 40) rfl rfl h14 rfl (Qt.idxM Try.runUnderlying33 Try.sizeOf4 rfl (Src.row 0 rfl) rfl (by first | omega | (have h_ := hi.len; omega) | (have h_ := h0.len; omega) | (simp only [List.length_append, List.length_cons, List.length_nil]; omega)) (by first | omega | (have h_ := hi.len; omega) | (have h_ := h0.len; omega) | (simp only [List.length_append, List.length_cons, List.length_nil]; omega))) rfl ?_
            refine O.gq (t := 40) rfl rfl h14 rfl (Qt.ld rfl (Cel.eltM (Src.row 0 rfl) he11) (o := (voff V1 + k * 1)) (off := 0) (by omega) (Cut.one Try.isAgg4 rfl)) rfl ?_
            refine O.gq (t := 36) rfl rfl h13 rfl (Pu.qt (Pu.pickF rfl h14 rfl)) rfl ?_
            refine O.p (Pu.pickT rfl h13 rfl) rfl ?_
            refine O.nil ?_
            refine J.cond rfl (fun h19 => ?_) (fun h19 => ?_)
            ·
              refine J.region ?_
              refine O.p (Pu.move rfl) rfl ?_
              refine O.p (Pu.move rfl) rfl ?_
              obtain ⟨e20, he20⟩ : ∃ x_, m3[t]? = some x_ := ⟨_, List.getElem?_eq_getElem (by first | omega | (have h_ := hi.len; omega) | (have h_ := h0.len; omega) | (simp only [List.length_append, List.length_cons, List.length_nil]; omega))⟩
              refine O.q (Qt.idxM Try.runUnderlying33 Try.sizeOf4 rfl (Src.row 0 rfl) rfl (by first | omega | (have h_ := hi.len; omega) | (have h_ := h0.len; omega) | (simp only [List.length_append, List.length_cons, List.length_nil]; omega)) (by first | omega | (have h_ := hi.len; omega) | (have h_ := h0.len; omega) | (simp only [List.length_append, List.length_cons, List.length_nil]; omega))) rfl ?_
              refine O.l0 (Lo.storeM 0 (j := t) (off := 0) (vs := [.bool true]) (e := [.bool e20]) true rfl rfl rfl rfl (by omega) he20 rfl (by exact Try.sizeOf4) rfl rfl rfl rfl rfl) ?_
              rintro _ _ rfl
              have hs21 : (m3.set t true)[t]? = some true := List.getElem?_set_self (List.getElem?_eq_some_iff.1 he20).1
              refine O.nil ?_
              refine J.blk ?_
              refine J.region ?_
              refine O.p (Pu.move rfl) rfl ?_
              refine O.p (Pu.add' rfl rfl (by first | omega | (simp only [List.length_append, List.length_cons, List.length_nil, List.length_set]; omega))) rfl ?_
              refine O.p (Pu.assign rfl) rfl ?_
              refine O.nil ?_
              exact J.lp ⟨k + 1, m3.set t true⟩ (show (k + 1) ≤ l.length ∧ Gr.RI (gOf l) f m (m3.set t true) t (k + 1) from ⟨by omega, hi.mark (by rw [← Gr.calls_e]; exact h13) (.inr (by show m3[k]? = some true; rw [he11]; exact congrArg some (by assumption)))⟩) (show l.length - (k + 1) < l.length - k from (by first | omega | (have h_ := hi.len; omega) | (have h_ := h0.len; omega) | (simp only [List.length_append, List.length_cons, List.length_nil]; omega))) ⟨rfl, rfl, rfl, rfl, rfl, rfl, (congrArg (fun z => some (Value.int .i64 z)) (by first | rfl | omega : ((k : Int) + 1 : Int) = ((k + 1) : Int))), trivial⟩ [0] (by decide) rfl
            ·
              refine J.skip ?_
              refine J.blk ?_
              refine J.region ?_
              refine O.p (Pu.move rfl) rfl ?_
              refine O.p (Pu.add' rfl rfl (by first | omega | (simp only [List.length_append, List.length_cons, List.length_nil, List.length_set]; omega))) rfl ?_
              refine O.p (Pu.assign rfl) rfl ?_
              refine O.nil ?_
              exact J.lp ⟨k + 1, m3⟩ (show (k + 1) ≤ l.length ∧ Gr.RI (gOf l) f m m3 t (k + 1) from ⟨by omega, hi.skip (fun h_ => by rcases h_.2 with h2_ | h2_; (· omega); (· have h3_ : m3[k]? = some true := h2_; rw [he11] at h3_; simp_all))⟩) (show l.length - (k + 1) < l.length - k from (by first | omega | (have h_ := hi.len; omega) | (have h_ := h0.len; omega) | (simp only [List.length_append, List.length_cons, List.length_nil]; omega))) ⟨rfl, rfl, rfl, rfl, rfl, rfl, (congrArg (fun z => some (Value.int .i64 z)) (by first | rfl | omega : ((k : Int) + 1 : Int) = ((k + 1) : Int))), trivial⟩ [0] (by decide) rfl
        ·
          refine O.gskip (t := 36) rfl rfl (no_bool (by rw [h13]; decide)) rfl rfl ?_
          refine O.gskip (t := 36) rfl rfl (no_bool (by rw [h13]; decide)) rfl rfl ?_
          refine O.gskip (t := 36) rfl rfl (no_bool (by rw [h13]; decide)) rfl rfl ?_
          refine O.gskip (t := 36) rfl rfl (no_bool (by rw [h13]; decide)) rfl rfl ?_
          refine O.gskip (t := 40) rfl rfl (no_undef _) rfl rfl ?_
          refine O.gskip (t := 40) rfl rfl (no_undef _) rfl rfl ?_
          refine O.gskip (t := 40) rfl rfl (no_undef _) rfl rfl ?_
          refine O.gskip (t := 40) rfl rfl (no_undef _) rfl rfl ?_
          refine O.gskip (t := 36) rfl rfl (no_bool (by rw [h13]; decide)) rfl rfl ?_
          refine O.p (Pu.pickF rfl h13 rfl) rfl ?_
          refine O.nil ?_
          refine J.condF rfl rfl ?_
          refine J.skip ?_
          refine J.blk ?_
          refine J.region ?_
          refine O.p (Pu.move rfl) rfl ?_
          refine O.p (Pu.add' rfl rfl (by first | omega | (simp only [List.length_append, List.length_cons, List.length_nil, List.length_set]; omega))) rfl ?_
          refine O.p (Pu.assign rfl) rfl ?_
          refine O.nil ?_
          exact J.lp ⟨k + 1, m3⟩ (show (k + 1) ≤ l.length ∧ Gr.RI (gOf l) f m m3 t (k + 1) from ⟨by omega, hi.skip (fun h_ => by have h2_ := h_.1; rw [← Gr.calls_e, h13] at h2_; cases h2_)⟩) (show l.length - (k + 1) < l.length - k from (by first | omega | (have h_ := hi.len; omega) | (have h_ := h0.len; omega) | (simp only [List.length_append, List.length_cons, List.length_nil]; omega))) ⟨rfl, rfl, rfl, rfl, rfl, rfl, (congrArg (fun z => some (Value.int .i64 z)) (by first | rfl | omega : ((k : Int) + 1 : Int) = ((k + 1) : Int))), trivial⟩ [0] (by decide) rfl
      ·
        have p22 := of_decide_eq_false h9
        refine J.exit _ rfl ?_
        refine J.blk ?_
        refine J.region ?_
        refine O.p (Pu.move rfl) rfl ?_
        refine O.p (Pu.add' rfl rfl (by first | omega | (simp only [List.length_append, List.length_cons, List.length_nil, List.length_set]; omega))) rfl ?_
        refine O.p (Pu.assign rfl) rfl ?_
        refine O.nil ?_
        exact J.lp ⟨t + 1, m3⟩ (show (t + 1) ≤ l.length ∧ Gr.RI (gOf l) f m m3 (t + 1) 0 from ⟨by omega, Gr.RI.row ((show k = (gOf l).length from by omega) ▸ hi)⟩) (show l.length - (t + 1) < l.length - t from (by first | omega | (have h_ := hi.len; omega) | (have h_ := h0.len; omega) | (simp only [List.length_append, List.length_cons, List.length_nil]; omega))) ⟨rfl, rfl, rfl, rfl, rfl, (congrArg (fun z => some (Value.int .i64 z)) (by first | rfl | omega : ((t : Int) + 1 : Int) = ((t + 1) : Int))), trivial⟩ [0] (by decide) rfl
    ·
      have p23 := of_decide_eq_false h6
      refine J.exit _ rfl ?_
      refine J.blk ?_
      refine J.region ?_
      refine O.p (Pu.move rfl) rfl ?_
      refine O.p (Pu.add' rfl rfl (by first | omega | (simp only [List.length_append, List.length_cons, List.length_nil, List.length_set]; omega))) rfl ?_
      refine O.p (Pu.assign rfl) rfl ?_
      refine O.nil ?_
      exact J.lp ⟨r + 1, m2⟩ (show (r + 1) ≤ l.length ∧ Gr.RO (gOf l) f m2 (r + 1) from ⟨by omega, Gr.RI.over ((show t = (gOf l).length from by omega) ▸ hm) h0⟩) (show l.length - (r + 1) < l.length - r from (by first | omega | (have h_ := hi.len; omega) | (have h_ := h0.len; omega) | (simp only [List.length_append, List.length_cons, List.length_nil]; omega))) ⟨rfl, rfl, rfl, rfl, (congrArg (fun z => some (Value.int .i64 z)) (by first | rfl | omega : ((r : Int) + 1 : Int) = ((r + 1) : Int))), trivial⟩ [0] (by decide) rfl
  ·
    have p24 := of_decide_eq_false h3
    refine J.exit _ rfl ?_
    refine J.seq ?_
    refine J.region ?_
    refine O.p (Pu.assign rfl) rfl ?_
    refine O.nil ?_
    refine J.seq ?_
    refine J.seq ?_
    refine J.region ?_
    refine O.p (Pu.assign rfl) rfl ?_
    refine O.nil ?_
    refine J.block ?_
    refine J.nilRow 3 1 ?_
    refine J.loop (X := Nat × Value × List Int) (fun ξ => ξ.1 ≤ l.length ∧ ξ.2.2 = Gr.marked m ξ.1 ∧ ξ.2.2.length ≤ ξ.1) (fun ξ => [(0, lv), (4, Value.slice none 0 0), (5, V1), (9, ξ.2.1), (10, .int .i64 (ξ.1 : Int))]) (fun ξ => [row V1 4 1 (m.map encBo), row ξ.2.1 3 1 (ξ.2.2.map encZ)]) (fun ξ => l.length - ξ.1) ⟨0, Value.slice none 0 0, []⟩ (show 0 ≤ l.length ∧ ([]) = Gr.marked m 0 ∧ ([]).length ≤ 0 from ⟨by omega, rfl, by simp⟩) ⟨rfl, rfl, rfl, rfl, (congrArg (fun z => some (Value.int .i64 z)) (by first | rfl | omega : (0 : Int) = (0 : Int))), trivial⟩ [1, 0] (by decide) rfl ?_
    rintro ⟨k, V, o⟩ hq25
    obtain ⟨hk, hst, hlen⟩ : k ≤ l.length ∧ o = Gr.marked m k ∧ o.length ≤ k := hq25
    show J _ _ [(0, lv), (4, Value.slice none 0 0), (5, V1), (9, V), (10, .int .i64 (k : Int))] [row V1 4 1 (m.map encBo), row V 3 1 (o.map encZ)]
    refine J.seq ?_
    refine J.seq ?_
    refine J.region ?_
    refine O.p (Pu.move rfl) rfl ?_
    refine O.p (Pu.move rfl) rfl ?_
    refine O.q (Qt.lenM Try.runUnderlying70 rfl (Src.ro 0 rfl)) rfl ?_
    refine O.p (Pu.lss rfl rfl) rfl ?_
    refine O.nil ?_
    refine J.cond rfl (fun h26 => ?_) (fun h26 => ?_)
    ·
      have p27 := of_decide_eq_true h26
      refine J.skip ?_
      refine J.seq ?_
      refine J.block ?_
      refine J.seq ?_
      refine J.region ?_
      refine O.p (Pu.move rfl) rfl ?_
      refine O.p (Pu.move rfl) rfl ?_
      obtain ⟨e28, he28⟩ : ∃ x_, m[k]? = some x_ := ⟨_, List.getElem?_eq_getElem (by first | omega | (have h_ := hi.len; omega) | (have h_ := h0.len; omega) | (simp only [List.length_append, List.length_cons, List.length_nil]; omega))⟩
      refine O.q (Qt.idxM Try.runUnderlying33 Try.sizeOf4 rfl (Src.row 0 rfl) rfl (by first | omega | (have h_ := hi.len; omega) | (have h_ := h0.len; omega) | (simp only [List.length_append, List.length_cons, List.length_nil]; omega)) (by first | omega | (have h_ := hi.len; omega) | (have h_ := h0.len; omega) | (simp only [List.length_append, List.length_cons, List.length_nil]; omega))) rfl ?_
      refine O.q (Qt.ld rfl (Cel.eltM (Src.row 0 rfl) he28) (o := (voff V1 + k * 1)) (off := 0) (by omega) (Cut.one Try.isAgg4 rfl)) rfl ?_
      refine O.nil ?_
      refine J.cond rfl (fun h29 => ?_) (fun h29 => ?_)
      ·
        refine J.region ?_
        refine O.p (Pu.move rfl) rfl ?_
        refine O.p (Pu.move rfl) rfl ?_
        refine O.l (Lo.buildM (s := 1) encZ [(k : Int)] [(0, .int .i64 (k : Int))] (by exact Try.runUnderlying24) (by exact Try.sizeOf3) (by exact Try.zeroValue3) rfl rfl rfl (by kernel_rfl) rfl rfl) rfl ?_
        rintro V30 _ rfl
        refine O.l (Lo.appendM (s := 1) 2 (by exact Try.underlying24) (by exact (info3).1) (by exact (info3).2.1) (by exact (info3).2.2.1) (by exact (info3).2.2.2) rfl rfl rfl rfl rfl (Src.row 0 rfl) encZ.one (by first | omega | (have h_ := hi.len; omega) | (have h_ := h0.len; omega) | (simp only [List.length_append, List.length_cons, List.length_nil]; omega)) (by first | omega | (have h_ := hi.len; omega) | (have h_ := h0.len; omega) | (simp only [List.length_append, List.length_cons, List.length_nil]; omega))) rfl ?_
        rintro V31 _ rfl
        refine O.p (Pu.assign rfl) rfl ?_
        refine O.nil ?_
        refine J.blk ?_
        refine J.region ?_
        refine O.p (Pu.move rfl) rfl ?_
        refine O.p (Pu.add' rfl rfl (by first | omega | (simp only [List.length_append, List.length_cons, List.length_nil, List.length_set]; omega))) rfl ?_
        refine O.p (Pu.assign rfl) rfl ?_
        refine O.nil ?_
        exact J.lp ⟨k + 1, V31, o ++ ([(k : Int)])⟩ (show (k + 1) ≤ l.length ∧ (o ++ ([(k : Int)])) = Gr.marked m (k + 1) ∧ (o ++ ([(k : Int)])).length ≤ (k + 1) from ⟨by omega, (by rw [hst]; first | exact (Gr.marked_yes (by rw [he28]; exact congrArg some (by assumption))).symm | exact (Gr.marked_no (by rw [he28]; exact congrArg some (by assumption))).symm), (by first | omega | (simp only [List.length_append, List.length_cons, List.length_nil]; omega))⟩) (show l.length - (k + 1) < l.length - k from (by first | omega | (have h_ := hi.len; omega) | (have h_ := h0.len; omega) | (simp only [List.length_append, List.length_cons, List.length_nil]; omega))) ⟨rfl, rfl, rfl, rfl, (congrArg (fun z => some (Value.int .i64 z)) (by first | rfl | omega : ((k : Int) + 1 : Int) = ((k + 1) : Int))), trivial⟩ [1, 2] (by decide) rfl
      ·
        refine J.skip ?_
        refine J.blk ?_
        refine J.region ?_
        refine O.p (Pu.move rfl) rfl ?_
        refine O.p (Pu.add' rfl rfl (by first | omega | (simp only [List.length_append, List.length_cons, List.length_nil, List.length_set]; omega))) rfl ?_
        refine O.p (Pu.assign rfl) rfl ?_
        refine O.nil ?_
        exact J.lp ⟨k + 1, V, o⟩ (show (k + 1) ≤ l.length ∧ o = Gr.marked m (k + 1) ∧ o.length ≤ (k + 1) from ⟨by omega, (by rw [hst]; first | exact (Gr.marked_yes (by rw [he28]; exact congrArg some (by assumption))).symm | exact (Gr.marked_no (by rw [he28]; exact congrArg some (by assumption))).symm), (by first | omega | (simp only [List.length_append, List.length_cons, List.length_nil]; omega))⟩) (show l.length - (k + 1) < l.length - k from (by first | omega | (have h_ := hi.len; omega) | (have h_ := h0.len; omega) | (simp only [List.length_append, List.length_cons, List.length_nil]; omega))) ⟨rfl, rfl, rfl, rfl, (congrArg (fun z => some (Value.int .i64 z)) (by first | rfl | omega : ((k : Int) + 1 : Int) = ((k + 1) : Int))), trivial⟩ [0, 1] (by decide) rfl
    ·
      have p32 := of_decide_eq_false h26
      refine J.exit _ rfl ?_
      refine J.seq ?_
      refine J.region ?_
      refine O.p (Pu.move rfl) rfl ?_
      refine O.p (Pu.assign rfl) rfl ?_
      refine O.nil ?_
      exact J.ret (Fin.ret (rs := [.tmp 4]) rfl [_] ⟨rfl, trivial⟩ [1] (by decide) [row V 3 1 (o.map encZ)] rfl (congrArg (fun (z : List Int) => ([row V 3 1 (z.map encZ)] : List Sp)) (show o = Gr.reachL (gOf l) f from (by rw [hst, show k = (gOf l).length from by omega]; exact Gr.RO.row ((show r = (gOf l).length from by omega) ▸ h0)))))

set_option maxRecDepth 100000 in
theorem r29_Check (lv : Value) (l : List Sg) (hl : l.length ≤ 1000) (hc : ∀ s ∈ l, s.cl.length ≤ 1000) : Tri Try.prog 44 #[lv] [rd lv 14 (l.map Sg.cells), ros (l.map Sg.rd)] [] (fun v L' => v = .int .i64 (Gr.loops (gOf l)) ∧ L' = []) := by
  have hgl := gOf_len (l := l)
  refine Tri.enter (args := [lv]) (body := _) 15 Try.func44 rfl Try.ntmps44 rfl ?_
  intro w0
  refine J.seq ?_
  refine J.region ?_
  refine O.p (Pu.assign rfl) rfl ?_
  refine O.nil ?_
  refine J.seq ?_
  refine J.seq ?_
  refine J.region ?_
  refine O.p (Pu.assign rfl) rfl ?_
  refine O.nil ?_
  refine J.block ?_
  refine J.loop (X := Nat) (fun ξ => ξ ≤ l.length ∧ ∀ j, j < ξ → ¬ Gr.Path (Gr.e (gOf l)) j j) (fun ξ => [(0, lv), (3, .int .i64 (ξ : Int))]) (fun ξ => []) (fun ξ => l.length - ξ) 0 (show 0 ≤ l.length ∧ ∀ j, j < 0 → ¬ Gr.Path (Gr.e (gOf l)) j j from ⟨by omega, fun j hj => absurd hj (Nat.not_lt_zero _)⟩) ⟨rfl, (congrArg (fun z => some (Value.int .i64 z)) (by first | rfl | omega : (0 : Int) = (0 : Int))), trivial⟩ [] (by decide) rfl ?_
  rintro k hq1
  obtain ⟨hk, hno⟩ : k ≤ l.length ∧ ∀ j, j < k → ¬ Gr.Path (Gr.e (gOf l)) j j := hq1
  show J _ _ [(0, lv), (3, .int .i64 (k : Int))] []
  refine J.seq ?_
  refine J.seq ?_
  refine J.region ?_
  refine O.p (Pu.move rfl) rfl ?_
  refine O.p (Pu.move rfl) rfl ?_
  refine O.q (Qt.lenM Try.runUnderlying70 rfl (Src.ro 0 rfl)) rfl ?_
  refine O.p (Pu.lss rfl rfl) rfl ?_
  refine O.nil ?_
  refine J.cond rfl (fun h2 => ?_) (fun h2 => ?_)
  ·
    have p3 := of_decide_eq_true h2
    refine J.skip ?_
    refine J.seq ?_
    refine J.block ?_
    refine J.seq ?_
    refine J.region ?_
    refine O.p (Pu.move rfl) rfl ?_
    refine O.p (Pu.move rfl) rfl ?_
    refine O.l (Lo.call [lv, .int .i64 (k : Int)] (by exact Try.call48) rfl (r29_Reach lv l k hl hc) [] [] (by decide) rfl [] rfl (RoOk.ro 0 rfl [] rfl (RoOk.ro 1 rfl [] rfl RoOk.nil))) rfl ?_
    rintro v4 _ ⟨_, rfl, rfl⟩
    refine O.p (Pu.move rfl) rfl ?_
    refine O.l (Lo.call [v4, .int .i64 (k : Int)] (by exact Try.call65) rfl (r29_has v4 (Gr.reachL (gOf l) k) (k : Int) (by first | omega | (have h_ := Gr.reachL_len (g := (gOf l)) (i := k); omega))) [] [0] (by decide) rfl [row v4 3 1 ((Gr.reachL (gOf l) k).map encZ)] rfl (RoOk.of 0 rfl row_rd [] (by decide) rfl RoOk.nil)) rfl ?_
    rintro _ _ ⟨_, ⟨rfl, rfl⟩, rfl⟩
    refine O.nil ?_
    refine J.cond rfl (fun h6 => ?_) (fun h6 => ?_)
    ·
      have p7 := of_decide_eq_true h6
      refine J.seq ?_
      refine J.region ?_
      refine O.p (Pu.assign rfl) rfl ?_
      refine O.nil ?_
      exact J.ret (Fin.ret (rs := [.tmp 2]) rfl [_] ⟨rfl, trivial⟩ [] (by decide) [] rfl ⟨(by rw [Gr.loops_round (Gr.reach_self.1 (by assumption))]; rfl), rfl⟩)
    ·
      have p8 := of_decide_eq_false h6
      refine J.skip ?_
      refine J.blk ?_
      refine J.region ?_
      refine O.p (Pu.move rfl) rfl ?_
      refine O.p (Pu.add' rfl rfl (by first | omega | (simp only [List.length_append, List.length_cons, List.length_nil, List.length_set]; omega))) rfl ?_
      refine O.p (Pu.assign rfl) rfl ?_
      refine O.nil ?_
      exact J.lp (k + 1) (show (k + 1) ≤ l.length ∧ ∀ j, j < (k + 1) → ¬ Gr.Path (Gr.e (gOf l)) j j from ⟨by omega, fun j hj hp_ => by rcases Nat.lt_or_ge j k with h1_ | h1_; (· exact hno j h1_ hp_); (· have h2_ : j = k := (by omega); subst h2_; exact absurd (Gr.reach_self.2 hp_) (by assumption))⟩) (show l.length - (k + 1) < l.length - k from (by omega)) ⟨rfl, (congrArg (fun z => some (Value.int .i64 z)) (by first | rfl | omega : ((k : Int) + 1 : Int) = ((k + 1) : Int))), trivial⟩ [] (by decide) rfl
  ·
    have p9 := of_decide_eq_false h2
    refine J.exit _ rfl ?_
    refine J.seq ?_
    refine J.region ?_
    refine O.p (Pu.assign rfl) rfl ?_
    refine O.nil ?_
    exact J.ret (Fin.ret (rs := [.tmp 2]) rfl [_] ⟨rfl, trivial⟩ [] (by decide) [] rfl ⟨(by rw [Gr.loops_none (fun i hi => hno i (by omega))]; rfl), rfl⟩)

end Go.Proofs.Ytnkhmbbnabejhaa

namespace Go.Proofs.Ytnkhmbbnabejhaa
open Go Go.LK
set_option linter.unusedSimpArgs false

set_option maxRecDepth 100000 in
set_option maxHeartbeats 1000000 in
theorem r29_Order (lv : Value) (l : List Sg) (hl : l.length ≤ 1000) (hc : ∀ s ∈ l, s.cl.length ≤ 1000) : Tri Try.prog 41 #[lv] [rd lv 14 (l.map Sg.cells), ros (l.map Sg.rd)] [] (fun v L' => ∃ V', v = .tuple #[V', .int .i64 (Gr.loops (gOf l))] ∧ L' = [row V' 3 1 ((Gr.ordL (gOf l)).map encZ)]) := by
  have hgl := gOf_len (l := l)
  refine Tri.enter (args := [lv]) (body := _) 38 Try.func41 rfl Try.ntmps41 rfl ?_
  intro w0
  refine J.seq ?_
  refine J.region ?_
  refine O.p (Pu.assign rfl) rfl ?_
  refine O.p (Pu.assign rfl) rfl ?_
  refine O.nil ?_
  refine J.seq ?_
  refine J.seq ?_
  refine J.region ?_
  refine O.p (Pu.move rfl) rfl ?_
  refine O.l (Lo.call [lv] (by exact Try.call44) rfl (r29_Check lv l hl hc) [] [] (by decide) rfl [] rfl (RoOk.ro 0 rfl [] rfl (RoOk.ro 1 rfl [] rfl RoOk.nil))) rfl ?_
  rintro _ _ ⟨_, ⟨rfl, rfl⟩, rfl⟩
  refine O.p (Pu.neq rfl rfl) rfl ?_
  refine O.nil ?_
  refine J.cond rfl (fun h2 => ?_) (fun h2 => ?_)
  ·
    have p3 := of_decide_eq_true h2
    refine J.seq ?_
    refine J.region ?_
    refine O.p (Pu.assign rfl) rfl ?_
    refine O.p (Pu.assign rfl) rfl ?_
    refine O.nil ?_
    refine J.nilRow 3 1 ?_
    show J _ _ _ [row (Value.slice none 0 0) 3 1 (([] : List Int).map encZ)]
    exact J.ret (Fin.ret (rs := [.tmp 2, .tmp 3]) rfl [_, _] ⟨rfl, rfl, trivial⟩ [0] (by decide) [row (Value.slice none 0 0) 3 1 (([] : List Int).map encZ)] rfl ⟨Value.slice none 0 0, (by rw [Gr.loops_11 (by assumption)]; rfl), (congrArg (fun (z : List Int) => ([row (Value.slice none 0 0) 3 1 (z.map encZ)] : List Sp)) (Gr.ordL_no (Gr.loops_none_ord (by assumption))).symm)⟩)
  ·
    have p4 := of_decide_eq_false h2
    refine J.skip ?_
    refine J.seq ?_
    obtain ⟨oz, hall⟩ := Gr.loops_ord (g := (gOf l)) (by assumption)
    refine J.region ?_
    refine O.p (Pu.assign rfl) rfl ?_
    refine O.nil ?_
    refine J.seq ?_
    refine J.block ?_
    refine J.nilRow 3 1 ?_
    refine J.loop (X := Value × List Int × List Nat) (fun ξ => ξ.2.2.length ≤ l.length ∧ Gr.ordN (gOf l) ξ.2.2.length = some ξ.2.2 ∧ ξ.2.1 = ξ.2.2.map (fun (n : Nat) => (n : Int))) (fun ξ => [(0, lv), (2, Value.slice none 0 0), (3, .int .i64 0), (4, ξ.1)]) (fun ξ => [row ξ.1 3 1 (ξ.2.1.map encZ)]) (fun ξ => l.length - ξ.2.2.length) ⟨Value.slice none 0 0, [], []⟩ (show ([]).length ≤ l.length ∧ Gr.ordN (gOf l) ([]).length = some ([]) ∧ ([]) = ([]).map (fun (n : Nat) => (n : Int)) from ⟨by simp, rfl, rfl⟩) ⟨rfl, rfl, rfl, rfl, trivial⟩ [0] (by decide) rfl ?_
    rintro ⟨V, u, o⟩ hq5
    obtain ⟨hk, ho, hu⟩ : o.length ≤ l.length ∧ Gr.ordN (gOf l) o.length = some o ∧ u = o.map (fun (n : Nat) => (n : Int)) := hq5
    show J _ _ [(0, lv), (2, Value.slice none 0 0), (3, .int .i64 0), (4, V)] [row V 3 1 (u.map encZ)]
    have hul : u.length = o.length := by rw [hu, List.length_map]
    refine J.seq ?_
    refine J.seq ?_
    refine J.region ?_
    refine O.p (Pu.move rfl) rfl ?_
    refine O.q (Qt.lenM Try.runUnderlying24 rfl (Src.row 0 rfl)) rfl ?_
    refine O.p (Pu.move rfl) rfl ?_
    refine O.q (Qt.lenM Try.runUnderlying70 rfl (Src.ro 0 rfl)) rfl ?_
    refine O.p (Pu.lss rfl rfl) rfl ?_
    refine O.nil ?_
    refine J.cond rfl (fun h6 => ?_) (fun h6 => ?_)
    ·
      have p7 := of_decide_eq_true h6
      refine J.skip ?_
      refine J.block ?_
      refine J.seq ?_
      refine J.region ?_
      refine O.p (Pu.assign rfl) rfl ?_
      refine O.nil ?_
      refine J.seq ?_
      refine J.seq ?_
      refine J.region ?_
      refine O.p (Pu.move rfl) rfl ?_
      refine O.q (Qt.lenM Try.runUnderlying70 rfl (Src.ro 0 rfl)) rfl ?_
      refine O.p (Pu.sub' rfl rfl (by omega)) rfl ?_
      refine O.p (Pu.assign rfl) rfl ?_
      refine O.nil ?_
      refine J.block ?_
      refine J.loop (X := Nat × Int) (fun ξ => ξ.1 ≤ l.length ∧ ξ.2 = Gr.nextK (gOf l) o ξ.1) (fun ξ => [(0, lv), (2, Value.slice none 0 0), (3, .int .i64 0), (4, V), (5, .int .i64 ξ.2), (6, .int .i64 ((ξ.1 : Int) - 1))]) (fun ξ => [row V 3 1 (u.map encZ)]) (fun ξ => ξ.1) ⟨l.length, -1⟩ (show l.length ≤ l.length ∧ (-1) = Gr.nextK (gOf l) o l.length from ⟨by omega, (by rw [← hgl]; exact Gr.nextK_end.symm)⟩) ⟨rfl, rfl, rfl, rfl, rfl, rfl, trivial⟩ [0] (by decide) rfl ?_
      rintro ⟨k, nx⟩ hq8
      obtain ⟨hk2, hnx0⟩ : k ≤ l.length ∧ nx = Gr.nextK (gOf l) o k := hq8
      show J _ _ [(0, lv), (2, Value.slice none 0 0), (3, .int .i64 0), (4, V), (5, .int .i64 nx), (6, .int .i64 ((k : Int) - 1))] [row V 3 1 (u.map encZ)]
      refine J.seq ?_
      refine J.seq ?_
      refine J.region ?_
      refine O.p (Pu.move rfl) rfl ?_
      refine O.p (Pu.geq rfl rfl) rfl ?_
      refine O.nil ?_
      refine J.cond rfl (fun h9 => ?_) (fun h9 => ?_)
      ·
        have p10 := of_decide_eq_true h9
        refine J.skip ?_
        refine J.seq ?_
        refine J.block ?_
        refine J.seq ?_
        obtain ⟨k1, rfl⟩ : ∃ k1, k = k1 + 1 := ⟨k - 1, by omega⟩
        refine J.trim [(0, lv), (2, Value.slice none 0 0), (3, .int .i64 0), (4, V), (5, .int .i64 nx), (6, .int .i64 (k1 : Int))] ⟨rfl, rfl, rfl, rfl, rfl, (congrArg (fun z => some (Value.int .i64 z)) (by first | rfl | omega : (((k1 + 1 : Nat) : Int) - 1 : Int) = (k1 : Int))), trivial⟩ ?_
        refine J.region ?_
        refine O.p (Pu.move rfl) rfl ?_
        refine O.p (Pu.move rfl) rfl ?_
        refine O.l (Lo.call [V, .int .i64 (k1 : Int)] (by exact Try.call65) rfl (r29_has V u (k1 : Int) (by first | omega | (rw [hu, List.length_map]; omega) | (rw [hu, List.length_map]; simp only [List.length_cons, List.length_nil]; omega))) [] [0] (by decide) rfl [row V 3 1 (u.map encZ)] rfl (RoOk.of 0 rfl row_rd [] (by decide) rfl RoOk.nil)) rfl ?_
        rintro _ _ ⟨_, ⟨rfl, rfl⟩, rfl⟩
        refine O.p (Pu.not rfl) rfl ?_
        refine O.p (Pu.move rfl) rfl ?_
        refine by_bool (!(decide ((k1 : Int) ∈ u))) (fun h12 => ?_) (fun h12 => ?_)
        ·
          have h13 : (decide ((k1 : Int) ∈ u)) = false := not_flip h12
          have p14 := of_decide_eq_false h13
          refine O.gq (t := 26) rfl rfl h12 rfl (Pu.qt (Pu.move rfl)) rfl ?_
          refine O.gq (t := 26) rfl rfl h12 rfl (Pu.qt (Pu.move rfl)) rfl ?_
          refine O.gq (t := 26) rfl rfl h12 rfl (Pu.qt (Pu.move rfl)) rfl ?_
          refine O.gl (t := 26) rfl rfl h12 rfl (Lo.call [lv, V, .int .i64 (k1 : Int)] (by exact Try.call66) rfl (r29_free lv l V u (k1 : Int) hl hc (by first | omega | (rw [hu, List.length_map]; omega) | (rw [hu, List.length_map]; simp only [List.length_cons, List.length_nil]; omega))) [] [0] (by decide) rfl [row V 3 1 (u.map encZ)] rfl (RoOk.ro 0 rfl [] rfl (RoOk.ro 1 rfl [] rfl (RoOk.of 0 rfl row_rd [] (by decide) rfl RoOk.nil)))) rfl ?_
          rintro _ _ ⟨_, ⟨rfl, rfl⟩, rfl⟩
          refine O.p (Pu.pickT rfl h12 rfl) rfl ?_
          refine O.nil ?_
          refine J.cond rfl (fun h16 => ?_) (fun h16 => ?_)
          ·
            refine J.region ?_
            refine O.p (Pu.move rfl) rfl ?_
            refine O.p (Pu.assign rfl) rfl ?_
            refine O.nil ?_
            refine J.blk ?_
            refine J.region ?_
            refine O.p (Pu.move rfl) rfl ?_
            refine O.p (Pu.sub' rfl rfl (by omega)) rfl ?_
            refine O.p (Pu.assign rfl) rfl ?_
            refine O.nil ?_
            exact J.lp ⟨k1, (k1 : Int)⟩ (show k1 ≤ l.length ∧ (k1 : Int) = Gr.nextK (gOf l) o k1 from ⟨by omega, (Gr.nextK_yes (by omega) (by rw [Gr.good_is, ← hu, h13, h16]; rfl)).symm⟩) (show k1 < k1 + 1 from Nat.lt_succ_self _) ⟨rfl, rfl, rfl, rfl, rfl, rfl, trivial⟩ [0] (by decide) rfl
          ·
            refine J.skip ?_
            refine J.blk ?_
            refine J.region ?_
            refine O.p (Pu.move rfl) rfl ?_
            refine O.p (Pu.sub' rfl rfl (by omega)) rfl ?_
            refine O.p (Pu.assign rfl) rfl ?_
            refine O.nil ?_
            exact J.lp ⟨k1, nx⟩ (show k1 ≤ l.length ∧ nx = Gr.nextK (gOf l) o k1 from ⟨by omega, hnx0.trans (Gr.nextK_no (by omega) (by rw [Gr.good_is, ← hu, h13, h16]; rfl)).symm⟩) (show k1 < k1 + 1 from Nat.lt_succ_self _) ⟨rfl, rfl, rfl, rfl, rfl, rfl, trivial⟩ [0] (by decide) rfl
        ·
          have h17 : (decide ((k1 : Int) ∈ u)) = true := not_flip h12
          have p18 := of_decide_eq_true h17
          refine O.gskip (t := 26) rfl rfl (no_bool (by rw [h12]; decide)) rfl rfl ?_
          refine O.gskip (t := 26) rfl rfl (no_bool (by rw [h12]; decide)) rfl rfl ?_
          refine O.gskip (t := 26) rfl rfl (no_bool (by rw [h12]; decide)) rfl rfl ?_
          refine O.gskip (t := 26) rfl rfl (no_bool (by rw [h12]; decide)) rfl rfl ?_
          refine O.p (Pu.pickF rfl h12 rfl) rfl ?_
          refine O.nil ?_
          refine J.condF rfl rfl ?_
          refine J.skip ?_
          refine J.blk ?_
          refine J.region ?_
          refine O.p (Pu.move rfl) rfl ?_
          refine O.p (Pu.sub' rfl rfl (by omega)) rfl ?_
          refine O.p (Pu.assign rfl) rfl ?_
          refine O.nil ?_
          exact J.lp ⟨k1, nx⟩ (show k1 ≤ l.length ∧ nx = Gr.nextK (gOf l) o k1 from ⟨by omega, hnx0.trans (Gr.nextK_no (by omega) (by rw [Gr.good_is, ← hu, h17]; rfl)).symm⟩) (show k1 < k1 + 1 from Nat.lt_succ_self _) ⟨rfl, rfl, rfl, rfl, rfl, rfl, trivial⟩ [0] (by decide) rfl
      ·
        have p19 := of_decide_eq_false h9
        refine J.exit _ rfl ?_
        obtain ⟨p, hp⟩ := Gr.ord_pick hall ho (by omega)
        have hnx : nx = (p : Int) := by rw [hnx0, show k = 0 from by omega]; exact Gr.nextK_pick hp
        subst hnx
        refine J.region ?_
        refine O.p (Pu.move rfl) rfl ?_
        refine O.p (Pu.move rfl) rfl ?_
        refine O.l (Lo.buildM (s := 1) encZ [(p : Int)] [(0, .int .i64 (p : Int))] (by exact Try.runUnderlying24) (by exact Try.sizeOf3) (by exact Try.zeroValue3) rfl rfl rfl (by kernel_rfl) rfl rfl) rfl ?_
        rintro V20 _ rfl
        refine O.l (Lo.appendM (s := 1) 1 (by exact Try.underlying24) (by exact (info3).1) (by exact (info3).2.1) (by exact (info3).2.2.1) (by exact (info3).2.2.2) rfl rfl rfl rfl rfl (Src.row 0 rfl) encZ.one (by first | omega | (rw [hu, List.length_map]; omega) | (rw [hu, List.length_map]; simp only [List.length_cons, List.length_nil]; omega)) (by first | omega | (rw [hu, List.length_map]; omega) | (rw [hu, List.length_map]; simp only [List.length_cons, List.length_nil]; omega))) rfl ?_
        rintro V21 _ rfl
        refine O.p (Pu.assign rfl) rfl ?_
        refine O.nil ?_
        refine J.blk ?_
        exact J.lp ⟨V21, u ++ ([(p : Int)]), o ++ [p]⟩ (show (o ++ [p]).length ≤ l.length ∧ Gr.ordN (gOf l) (o ++ [p]).length = some (o ++ [p]) ∧ (u ++ ([(p : Int)])) = (o ++ [p]).map (fun (n : Nat) => (n : Int)) from ⟨by simp; omega, (by rw [List.length_append]; exact Gr.ord_more ho hp), (by rw [hu]; simp)⟩) (show l.length - (o ++ [p]).length < l.length - o.length from (by rw [List.length_append]; simp only [List.length_cons, List.length_nil]; omega)) ⟨rfl, rfl, rfl, rfl, trivial⟩ [1] (by decide) rfl
    ·
      have p22 := of_decide_eq_false h6
      refine J.exit _ rfl ?_
      refine J.seq ?_
      refine J.region ?_
      refine O.p (Pu.move rfl) rfl ?_
      refine O.p (Pu.assign rfl) rfl ?_
      refine O.p (Pu.assign rfl) rfl ?_
      refine O.nil ?_
      exact J.ret (Fin.ret (rs := [.tmp 2, .tmp 3]) rfl [_, _] ⟨rfl, rfl, trivial⟩ [0] (by decide) [row V 3 1 (u.map encZ)] rfl ⟨V, (by rw [Gr.loops_yes (show Gr.ordN (gOf l) (gOf l).length = some o from (by rw [show (gOf l).length = o.length from by omega]; exact ho))]; rfl), (congrArg (fun (z : List Int) => ([row V 3 1 (z.map encZ)] : List Sp)) (show u = Gr.ordL (gOf l) from (by rw [Gr.ordL_yes (show Gr.ordN (gOf l) (gOf l).length = some o from (by rw [show (gOf l).length = o.length from by omega]; exact ho)), hu])))⟩)

end Go.Proofs.Ytnkhmbbnabejhaa
