/-
  Walks, printed by a program of mine (lk.py): each function meets its contract.
-/
import Derived.KernelRfl
import Derived.Test.YtghhjhjpccipaaaLD9
namespace Go.Proofs.Ytghhjhjpccipaaa
open Go Go.LK
set_option linter.unusedSimpArgs false

set_option maxRecDepth 100000 in
theorem r41_Tally (fv : Value) (l : List Ft) (hl : l.length ≤ 80000) : Tri Try.prog 37 #[fv] [rd fv 8 (l.map Ft.cells)] [] (fun v L' => L' = [row v 3 1 ((Ld.tally l).map encN)]) := by
  refine Tri.enter (args := [fv]) (body := _) 64 Try.func37 rfl Try.ntmps37 rfl ?_
  intro w0
  refine J.seq ?_
  refine J.region ?_
  refine O.p (Pu.assign rfl) rfl ?_
  refine O.nil ?_
  refine J.seq ?_
  refine J.region ?_
  refine O.l (Lo.makeSlice (n := 12) (s := 1) (bytes := 8) ((List.replicate 12 (0 : Int)).map encN) (by exact Try.runUnderlying69) (fun w => run_typeInfo w (by exact (info3).1)) (by exact (info3).2.2.2) (by exact Try.sizeOf3) (by exact Try.zeroValue3) rfl rfl rfl rfl rfl (by kernel_rfl) rfl rfl) rfl ?_
  rintro V1 _ rfl
  refine O.p (Pu.assign rfl) rfl ?_
  refine O.nil ?_
  refine J.seq ?_
  refine J.seq ?_
  refine J.region ?_
  refine O.p (Pu.assign rfl) rfl ?_
  refine O.nil ?_
  refine J.block ?_
  refine J.loop (X := Nat × Value × List Int) (fun ξ => ξ.1 ≤ l.length ∧ ξ.2.2 = upI Ld.tallyF (List.replicate 12 0) l ξ.1 ∧ ξ.2.2.length = 12) (fun ξ => [(0, fv), (2, Value.slice none 0 0), (3, ξ.2.1), (4, .int .i64 (ξ.1 : Int))]) (fun ξ => [row ξ.2.1 3 1 (ξ.2.2.map encN)]) (fun ξ => l.length - ξ.1) ⟨0, V1, List.replicate 12 0⟩ (show 0 ≤ l.length ∧ (List.replicate 12 0) = upI Ld.tallyF (List.replicate 12 0) l 0 ∧ (List.replicate 12 0).length = 12 from ⟨by omega, rfl, rfl⟩) ⟨rfl, rfl, rfl, (congrArg (fun z => some (Value.int .i64 z)) (by first | rfl | omega : (0 : Int) = (0 : Int))), trivial⟩ [0] (by decide) rfl ?_
  rintro ⟨k, V, out⟩ hq2
  obtain ⟨hk, hst, hlen⟩ : k ≤ l.length ∧ out = upI Ld.tallyF (List.replicate 12 0) l k ∧ out.length = 12 := hq2
  show J _ _ [(0, fv), (2, Value.slice none 0 0), (3, V), (4, .int .i64 (k : Int))] [row V 3 1 (out.map encN)]
  refine J.seq ?_
  refine J.seq ?_
  refine J.region ?_
  refine O.p (Pu.move rfl) rfl ?_
  refine O.p (Pu.move rfl) rfl ?_
  refine O.q (Qt.lenM Try.runUnderlying55 rfl (Src.ro 0 rfl)) rfl ?_
  refine O.p (Pu.lss rfl rfl) rfl ?_
  refine O.nil ?_
  refine J.cond rfl (fun h3 => ?_) (fun h3 => ?_)
  ·
    have p4 := of_decide_eq_true h3
    refine J.skip ?_
    refine J.seq ?_
    refine J.block ?_
    refine J.seq ?_
    refine J.region ?_
    refine O.p (Pu.move rfl) rfl ?_
    refine O.p (Pu.move rfl) rfl ?_
    obtain ⟨e5, he5⟩ : ∃ x_, l[k]? = some x_ := ⟨_, List.getElem?_eq_getElem (by first | omega | (simp only [List.length_append, List.length_cons, List.length_nil, List.length_set]; omega))⟩
    refine O.q (Qt.idxM Try.runUnderlying55 Try.sizeOf61 rfl (Src.ro 0 rfl) rfl (by first | omega | (simp only [List.length_append, List.length_cons, List.length_nil, List.length_set]; omega)) (by first | omega | (simp only [List.length_append, List.length_cons, List.length_nil, List.length_set]; omega))) rfl ?_
    refine O.q (Qt.ld rfl (Cel.eltM (Src.ro 0 rfl) he5) (o := (voff fv + k * 8)) (off := 0) (by omega) (Cut.agg [.int .i64 e5.s, .int .i64 e5.id, .int .i64 e5.state, .int .i64 e5.level, .int .i64 e5.code, .int .i64 e5.came, .int .i64 e5.began, .int .i64 e5.ended] Try.isAgg61 Try.sizeOf61 rfl rfl)) rfl ?_
    refine O.l (Lo.alloc [.int .i64 0, .int .i64 0, .int .i64 0, .int .i64 0, .int .i64 0, .int .i64 0, .int .i64 0, .int .i64 0] (by exact Try.zeroValue61) rfl) rfl ?_
    rintro _ _ ⟨g6, rfl, rfl⟩
    refine O.l0 (Lo.store 0 (vs := [.int .i64 e5.s, .int .i64 e5.id, .int .i64 e5.state, .int .i64 e5.level, .int .i64 e5.code, .int .i64 e5.came, .int .i64 e5.began, .int .i64 e5.ended]) [.int .i64 e5.s, .int .i64 e5.id, .int .i64 e5.state, .int .i64 e5.level, .int .i64 e5.code, .int .i64 e5.came, .int .i64 e5.began, .int .i64 e5.ended] rfl rfl rfl (by exact Try.sizeOf61) rfl rfl rfl rfl rfl) ?_
    rintro _ _ rfl
    refine O.nil ?_
    refine J.seq ?_
    refine J.seq ?_
    refine J.region ?_
    refine O.p (Pu.fieldAddr (off' := 2) Try.runUnderlying61 rfl Try.sizeOf3 rfl rfl rfl) rfl ?_
    refine O.q (Qt.ld rfl (Cel.var 0 rfl) (o := 0) (off := 2) rfl (Cut.one Try.isAgg3 rfl)) rfl ?_
    refine O.p (Pu.geq rfl rfl) rfl ?_
    refine O.p (Pu.move rfl) rfl ?_
    refine by_bool (decide (1 ≤ e5.state)) (fun h7 => ?_) (fun h7 => ?_)
    ·
      have p8 := of_decide_eq_true h7
      refine O.gq (t := 20) rfl rfl h7 rfl (Pu.qt (Pu.fieldAddr (off' := 2) Try.runUnderlying61 rfl Try.sizeOf3 rfl rfl rfl)) rfl ?_
      refine O.gq (t := 20) rfl rfl h7 rfl (Qt.ld rfl (Cel.var 0 rfl) (o := 0) (off := 2) rfl (Cut.one Try.isAgg3 rfl)) rfl ?_
      refine O.gq (t := 20) rfl rfl h7 rfl (Pu.qt (Pu.leq rfl rfl)) rfl ?_
      refine O.p (Pu.pickT rfl h7 rfl) rfl ?_
      refine O.nil ?_
      refine J.cond rfl (fun h9 => ?_) (fun h9 => ?_)
      ·
        have p10 := of_decide_eq_true h9
        refine J.region ?_
        refine O.p (Pu.move rfl) rfl ?_
        refine O.p (Pu.move rfl) rfl ?_
        obtain ⟨e11, he11⟩ : ∃ x_, out[0]? = some x_ := ⟨_, List.getElem?_eq_getElem (by first | omega | (simp only [List.length_append, List.length_cons, List.length_nil, List.length_set]; omega))⟩
        refine O.q (Qt.idxM Try.runUnderlying69 Try.sizeOf3 rfl (Src.row 1 rfl) rfl (by first | omega | (simp only [List.length_append, List.length_cons, List.length_nil, List.length_set]; omega)) (by first | omega | (simp only [List.length_append, List.length_cons, List.length_nil, List.length_set]; omega))) rfl ?_
        refine O.q (Qt.ld rfl (Cel.eltM (Src.row 1 rfl) he11) (o := (voff V + 0 * 1)) (off := 0) (by omega) (Cut.one Try.isAgg3 rfl)) rfl ?_
        refine O.p (Pu.add rfl rfl) rfl ?_
        refine O.q (Qt.idxM Try.runUnderlying69 Try.sizeOf3 rfl (Src.row 1 rfl) rfl (by first | omega | (simp only [List.length_append, List.length_cons, List.length_nil, List.length_set]; omega)) (by first | omega | (simp only [List.length_append, List.length_cons, List.length_nil, List.length_set]; omega))) rfl ?_
        refine O.l0 (Lo.storeM 1 (j := 0) (off := 0) (vs := [.int .i64 (IntKind.i64.wrap (e11 + 1))]) (e := [.int .i64 e11]) (IntKind.i64.wrap (e11 + 1)) rfl rfl rfl rfl (by omega) he11 rfl (by exact Try.sizeOf3) rfl rfl rfl rfl rfl) ?_
        rintro _ _ rfl
        have hs12 : (out.set 0 (IntKind.i64.wrap (e11 + 1)))[0]? = some (IntKind.i64.wrap (e11 + 1)) := List.getElem?_set_self (List.getElem?_eq_some_iff.1 he11).1
        refine O.nil ?_
        refine J.seq ?_
        refine J.seq ?_
        refine J.region ?_
        refine O.p (Pu.fieldAddr (off' := 2) Try.runUnderlying61 rfl Try.sizeOf3 rfl rfl rfl) rfl ?_
        refine O.q (Qt.ld rfl (Cel.var 0 rfl) (o := 0) (off := 2) rfl (Cut.one Try.isAgg3 rfl)) rfl ?_
        refine O.p (Pu.eql rfl rfl) rfl ?_
        refine O.p (Pu.move rfl) rfl ?_
        refine by_bool (decide (e5.state = 4)) (fun h13 => ?_) (fun h13 => ?_)
        ·
          have p14 := of_decide_eq_true h13
          refine O.gq (t := 34) rfl rfl h13 rfl (Pu.qt (Pu.fieldAddr (off' := 4) Try.runUnderlying61 rfl Try.sizeOf3 rfl rfl rfl)) rfl ?_
          refine O.gq (t := 34) rfl rfl h13 rfl (Qt.ld rfl (Cel.var 0 rfl) (o := 0) (off := 4) rfl (Cut.one Try.isAgg3 rfl)) rfl ?_
          refine O.gq (t := 34) rfl rfl h13 rfl (Pu.qt (Pu.geq rfl rfl)) rfl ?_
          refine O.p (Pu.pickT rfl h13 rfl) rfl ?_
          refine O.p (Pu.move rfl) rfl ?_
          refine by_bool (decide (1 ≤ e5.code)) (fun h15 => ?_) (fun h15 => ?_)
          ·
            have p16 := of_decide_eq_true h15
            refine O.gq (t := 39) rfl rfl h15 rfl (Pu.qt (Pu.fieldAddr (off' := 4) Try.runUnderlying61 rfl Try.sizeOf3 rfl rfl rfl)) rfl ?_
            refine O.gq (t := 39) rfl rfl h15 rfl (Qt.ld rfl (Cel.var 0 rfl) (o := 0) (off := 4) rfl (Cut.one Try.isAgg3 rfl)) rfl ?_
            refine O.gq (t := 39) rfl rfl h15 rfl (Pu.qt (Pu.leq rfl rfl)) rfl ?_
            refine O.p (Pu.pickT rfl h15 rfl) rfl ?_
            refine O.nil ?_
            refine J.cond rfl (fun h17 => ?_) (fun h17 => ?_)
            ·
              have p18 := of_decide_eq_true h17
              exfalso; omega
            ·
              have p19 := of_decide_eq_false h17
              exfalso; omega
          ·
            have p20 := of_decide_eq_false h15
            refine O.gskip (t := 39) rfl rfl (no_bool (by rw [h15]; decide)) rfl rfl ?_
            refine O.gskip (t := 39) rfl rfl (no_bool (by rw [h15]; decide)) rfl rfl ?_
            refine O.gskip (t := 39) rfl rfl (no_bool (by rw [h15]; decide)) rfl rfl ?_
            refine O.p (Pu.pickF rfl h15 rfl) rfl ?_
            refine O.nil ?_
            refine J.condF rfl rfl ?_
            refine J.skip ?_
            refine J.seq ?_
            refine J.region ?_
            refine O.p (Pu.fieldAddr (off' := 2) Try.runUnderlying61 rfl Try.sizeOf3 rfl rfl rfl) rfl ?_
            refine O.q (Qt.ld rfl (Cel.var 0 rfl) (o := 0) (off := 2) rfl (Cut.one Try.isAgg3 rfl)) rfl ?_
            refine O.p (Pu.eql rfl rfl) rfl ?_
            refine O.nil ?_
            refine J.cond rfl (fun h21 => ?_) (fun h21 => ?_)
            ·
              have p22 := of_decide_eq_true h21
              exfalso; omega
            ·
              have p23 := of_decide_eq_false h21
              exfalso; omega
        ·
          have p24 := of_decide_eq_false h13
          refine O.gskip (t := 34) rfl rfl (no_bool (by rw [h13]; decide)) rfl rfl ?_
          refine O.gskip (t := 34) rfl rfl (no_bool (by rw [h13]; decide)) rfl rfl ?_
          refine O.gskip (t := 34) rfl rfl (no_bool (by rw [h13]; decide)) rfl rfl ?_
          refine O.p (Pu.pickF rfl h13 rfl) rfl ?_
          refine O.p (Pu.move rfl) rfl ?_
          refine O.gskip (t := 39) rfl rfl (no_bool (by decide)) rfl rfl ?_
          refine O.gskip (t := 39) rfl rfl (no_bool (by decide)) rfl rfl ?_
          refine O.gskip (t := 39) rfl rfl (no_bool (by decide)) rfl rfl ?_
          refine O.p (Pu.pickF rfl rfl rfl) rfl ?_
          refine O.nil ?_
          refine J.condF rfl rfl ?_
          refine J.skip ?_
          refine J.seq ?_
          refine J.region ?_
          refine O.p (Pu.fieldAddr (off' := 2) Try.runUnderlying61 rfl Try.sizeOf3 rfl rfl rfl) rfl ?_
          refine O.q (Qt.ld rfl (Cel.var 0 rfl) (o := 0) (off := 2) rfl (Cut.one Try.isAgg3 rfl)) rfl ?_
          refine O.p (Pu.eql rfl rfl) rfl ?_
          refine O.nil ?_
          refine J.cond rfl (fun h25 => ?_) (fun h25 => ?_)
          ·
            have p26 := of_decide_eq_true h25
            exfalso; omega
          ·
            have p27 := of_decide_eq_false h25
            refine J.skip ?_
            refine J.blk ?_
            refine J.region ?_
            refine O.p (Pu.move rfl) rfl ?_
            refine O.p (Pu.add' rfl rfl (by first | omega | (simp only [List.length_append, List.length_cons, List.length_nil, List.length_set]; omega))) rfl ?_
            refine O.p (Pu.assign rfl) rfl ?_
            refine O.nil ?_
            exact J.lp ⟨k + 1, V, out.set 0 (IntKind.i64.wrap (e11 + 1))⟩ (show (k + 1) ≤ l.length ∧ (out.set 0 (IntKind.i64.wrap (e11 + 1))) = upI Ld.tallyF (List.replicate 12 0) l (k + 1) ∧ (out.set 0 (IntKind.i64.wrap (e11 + 1))).length = 12 from ⟨by omega, (by rw [upI_succ (by assumption), ← hst]; first | exact (Ld.tally_open (by first | assumption | (simp [Ld.isOpen, *]; done)) (by assumption)).symm | exact (Ld.tally_erased (by first | assumption | (simp only [Ld.isOpen, Bool.and_eq_false_iff, decide_eq_false_iff_not]; omega)) (by assumption) (by assumption)).symm | exact (Ld.tally_over (by first | assumption | (simp only [Ld.isOpen, Bool.and_eq_false_iff, decide_eq_false_iff_not]; omega)) (by assumption) (by omega) (by omega) (by assumption)).symm | exact (Ld.tally_skip (by first | assumption | (simp only [Ld.isOpen, Bool.and_eq_false_iff, decide_eq_false_iff_not]; omega)) (by omega) (by omega)).symm), by simp [hlen]⟩) (show l.length - (k + 1) < l.length - k from (by first | omega | (simp only [List.length_append, List.length_cons, List.length_nil, List.length_set]; omega))) ⟨rfl, rfl, rfl, (congrArg (fun z => some (Value.int .i64 z)) (by first | rfl | omega : ((k : Int) + 1 : Int) = ((k + 1) : Int))), trivial⟩ [1] (by decide) rfl
      ·
        have p28 := of_decide_eq_false h9
        refine J.skip ?_
        refine J.seq ?_
        refine J.seq ?_
        refine J.region ?_
        refine O.p (Pu.fieldAddr (off' := 2) Try.runUnderlying61 rfl Try.sizeOf3 rfl rfl rfl) rfl ?_
        refine O.q (Qt.ld rfl (Cel.var 0 rfl) (o := 0) (off := 2) rfl (Cut.one Try.isAgg3 rfl)) rfl ?_
        refine O.p (Pu.eql rfl rfl) rfl ?_
        refine O.p (Pu.move rfl) rfl ?_
        refine by_bool (decide (e5.state = 4)) (fun h29 => ?_) (fun h29 => ?_)
        ·
          have p30 := of_decide_eq_true h29
          refine O.gq (t := 34) rfl rfl h29 rfl (Pu.qt (Pu.fieldAddr (off' := 4) Try.runUnderlying61 rfl Try.sizeOf3 rfl rfl rfl)) rfl ?_
          refine O.gq (t := 34) rfl rfl h29 rfl (Qt.ld rfl (Cel.var 0 rfl) (o := 0) (off := 4) rfl (Cut.one Try.isAgg3 rfl)) rfl ?_
          refine O.gq (t := 34) rfl rfl h29 rfl (Pu.qt (Pu.geq rfl rfl)) rfl ?_
          refine O.p (Pu.pickT rfl h29 rfl) rfl ?_
          refine O.p (Pu.move rfl) rfl ?_
          refine by_bool (decide (1 ≤ e5.code)) (fun h31 => ?_) (fun h31 => ?_)
          ·
            have p32 := of_decide_eq_true h31
            refine O.gq (t := 39) rfl rfl h31 rfl (Pu.qt (Pu.fieldAddr (off' := 4) Try.runUnderlying61 rfl Try.sizeOf3 rfl rfl rfl)) rfl ?_
            refine O.gq (t := 39) rfl rfl h31 rfl (Qt.ld rfl (Cel.var 0 rfl) (o := 0) (off := 4) rfl (Cut.one Try.isAgg3 rfl)) rfl ?_
            refine O.gq (t := 39) rfl rfl h31 rfl (Pu.qt (Pu.leq rfl rfl)) rfl ?_
            refine O.p (Pu.pickT rfl h31 rfl) rfl ?_
            refine O.nil ?_
            refine J.cond rfl (fun h33 => ?_) (fun h33 => ?_)
            ·
              have p34 := of_decide_eq_true h33
              refine J.drawTail 10 Try.mixed (by kernel_rfl) ?_
              refine S.p (Pu.move rfl) rfl ?_
              refine S.p (Pu.fieldAddr (off' := 4) Try.runUnderlying61 rfl Try.sizeOf3 rfl rfl rfl) rfl ?_
              refine S.q (Qt.ld rfl (Cel.var 0 rfl) (o := 0) (off := 4) rfl (Cut.one Try.isAgg3 rfl)) rfl ?_
              refine S.p (Pu.move rfl) rfl ?_
              refine S.p (Pu.fieldAddr (off' := 4) Try.runUnderlying61 rfl Try.sizeOf3 rfl rfl rfl) rfl ?_
              refine S.q (Qt.ld rfl (Cel.var 0 rfl) (o := 0) (off := 4) rfl (Cut.one Try.isAgg3 rfl)) rfl ?_
              obtain ⟨e35, he35⟩ : ∃ x_, out[(e5.code).toNat]? = some x_ := ⟨_, List.getElem?_eq_getElem (by first | omega | (simp only [List.length_append, List.length_cons, List.length_nil, List.length_set]; omega))⟩
              refine S.q (Qt.idxM Try.runUnderlying69 Try.sizeOf3 rfl (Src.row 1 rfl) rfl (by first | omega | (simp only [List.length_append, List.length_cons, List.length_nil, List.length_set]; omega)) (by first | omega | (simp only [List.length_append, List.length_cons, List.length_nil, List.length_set]; omega))) rfl ?_
              refine S.q (Qt.ld rfl (Cel.eltM (Src.row 1 rfl) he35) (o := (voff V + ((e5.code).toNat) * 1)) (off := 0) (by omega) (Cut.one Try.isAgg3 rfl)) rfl ?_
              refine S.p (Pu.add rfl rfl) rfl ?_
              refine S.q (Qt.idxM Try.runUnderlying69 Try.sizeOf3 rfl (Src.row 1 rfl) rfl (by first | omega | (simp only [List.length_append, List.length_cons, List.length_nil, List.length_set]; omega)) (by first | omega | (simp only [List.length_append, List.length_cons, List.length_nil, List.length_set]; omega))) rfl ?_
              refine S.endO ?_
              refine O.l0 (Lo.storeM 1 (j := (e5.code).toNat) (off := 0) (vs := [.int .i64 (IntKind.i64.wrap (e35 + 1))]) (e := [.int .i64 e35]) (IntKind.i64.wrap (e35 + 1)) rfl rfl rfl rfl (by omega) he35 rfl (by exact Try.sizeOf3) rfl rfl rfl rfl rfl) ?_
              rintro _ _ rfl
              have hs36 : (out.set (e5.code).toNat (IntKind.i64.wrap (e35 + 1)))[(e5.code).toNat]? = some (IntKind.i64.wrap (e35 + 1)) := List.getElem?_set_self (List.getElem?_eq_some_iff.1 he35).1
              refine O.nil ?_
              refine J.seq ?_
              refine J.region ?_
              refine O.p (Pu.fieldAddr (off' := 2) Try.runUnderlying61 rfl Try.sizeOf3 rfl rfl rfl) rfl ?_
              refine O.q (Qt.ld rfl (Cel.var 0 rfl) (o := 0) (off := 2) rfl (Cut.one Try.isAgg3 rfl)) rfl ?_
              refine O.p (Pu.eql rfl rfl) rfl ?_
              refine O.nil ?_
              refine J.cond rfl (fun h37 => ?_) (fun h37 => ?_)
              ·
                have p38 := of_decide_eq_true h37
                exfalso; omega
              ·
                have p39 := of_decide_eq_false h37
                refine J.skip ?_
                refine J.blk ?_
                refine J.region ?_
                refine O.p (Pu.move rfl) rfl ?_
                refine O.p (Pu.add' rfl rfl (by first | omega | (simp only [List.length_append, List.length_cons, List.length_nil, List.length_set]; omega))) rfl ?_
                refine O.p (Pu.assign rfl) rfl ?_
                refine O.nil ?_
                exact J.lp ⟨k + 1, V, out.set (e5.code).toNat (IntKind.i64.wrap (e35 + 1))⟩ (show (k + 1) ≤ l.length ∧ (out.set (e5.code).toNat (IntKind.i64.wrap (e35 + 1))) = upI Ld.tallyF (List.replicate 12 0) l (k + 1) ∧ (out.set (e5.code).toNat (IntKind.i64.wrap (e35 + 1))).length = 12 from ⟨by omega, (by rw [upI_succ (by assumption), ← hst]; first | exact (Ld.tally_open (by first | assumption | (simp [Ld.isOpen, *]; done)) (by assumption)).symm | exact (Ld.tally_erased (by first | assumption | (simp only [Ld.isOpen, Bool.and_eq_false_iff, decide_eq_false_iff_not]; omega)) (by assumption) (by assumption)).symm | exact (Ld.tally_over (by first | assumption | (simp only [Ld.isOpen, Bool.and_eq_false_iff, decide_eq_false_iff_not]; omega)) (by assumption) (by omega) (by omega) (by assumption)).symm | exact (Ld.tally_skip (by first | assumption | (simp only [Ld.isOpen, Bool.and_eq_false_iff, decide_eq_false_iff_not]; omega)) (by omega) (by omega)).symm), by simp [hlen]⟩) (show l.length - (k + 1) < l.length - k from (by first | omega | (simp only [List.length_append, List.length_cons, List.length_nil, List.length_set]; omega))) ⟨rfl, rfl, rfl, (congrArg (fun z => some (Value.int .i64 z)) (by first | rfl | omega : ((k : Int) + 1 : Int) = ((k + 1) : Int))), trivial⟩ [1] (by decide) rfl
            ·
              have p40 := of_decide_eq_false h33
              refine J.skip ?_
              refine J.seq ?_
              refine J.region ?_
              refine O.p (Pu.fieldAddr (off' := 2) Try.runUnderlying61 rfl Try.sizeOf3 rfl rfl rfl) rfl ?_
              refine O.q (Qt.ld rfl (Cel.var 0 rfl) (o := 0) (off := 2) rfl (Cut.one Try.isAgg3 rfl)) rfl ?_
              refine O.p (Pu.eql rfl rfl) rfl ?_
              refine O.nil ?_
              refine J.cond rfl (fun h41 => ?_) (fun h41 => ?_)
              ·
                have p42 := of_decide_eq_true h41
                exfalso; omega
              ·
                have p43 := of_decide_eq_false h41
                refine J.skip ?_
                refine J.blk ?_
                refine J.region ?_
                refine O.p (Pu.move rfl) rfl ?_
                refine O.p (Pu.add' rfl rfl (by first | omega | (simp only [List.length_append, List.length_cons, List.length_nil, List.length_set]; omega))) rfl ?_
                refine O.p (Pu.assign rfl) rfl ?_
                refine O.nil ?_
                exact J.lp ⟨k + 1, V, out⟩ (show (k + 1) ≤ l.length ∧ out = upI Ld.tallyF (List.replicate 12 0) l (k + 1) ∧ out.length = 12 from ⟨by omega, (by rw [upI_succ (by assumption), ← hst]; first | exact (Ld.tally_open (by first | assumption | (simp [Ld.isOpen, *]; done)) (by assumption)).symm | exact (Ld.tally_erased (by first | assumption | (simp only [Ld.isOpen, Bool.and_eq_false_iff, decide_eq_false_iff_not]; omega)) (by assumption) (by assumption)).symm | exact (Ld.tally_over (by first | assumption | (simp only [Ld.isOpen, Bool.and_eq_false_iff, decide_eq_false_iff_not]; omega)) (by assumption) (by omega) (by omega) (by assumption)).symm | exact (Ld.tally_skip (by first | assumption | (simp only [Ld.isOpen, Bool.and_eq_false_iff, decide_eq_false_iff_not]; omega)) (by omega) (by omega)).symm), by simp [hlen]⟩) (show l.length - (k + 1) < l.length - k from (by first | omega | (simp only [List.length_append, List.length_cons, List.length_nil, List.length_set]; omega))) ⟨rfl, rfl, rfl, (congrArg (fun z => some (Value.int .i64 z)) (by first | rfl | omega : ((k : Int) + 1 : Int) = ((k + 1) : Int))), trivial⟩ [1] (by decide) rfl
          ·
            have p44 := of_decide_eq_false h31
            refine O.gskip (t := 39) rfl rfl (no_bool (by rw [h31]; decide)) rfl rfl ?_
            refine O.gskip (t := 39) rfl rfl (no_bool (by rw [h31]; decide)) rfl rfl ?_
            refine O.gskip (t := 39) rfl rfl (no_bool (by rw [h31]; decide)) rfl rfl ?_
            refine O.p (Pu.pickF rfl h31 rfl) rfl ?_
            refine O.nil ?_
            refine J.condF rfl rfl ?_
            refine J.skip ?_
            refine J.seq ?_
            refine J.region ?_
            refine O.p (Pu.fieldAddr (off' := 2) Try.runUnderlying61 rfl Try.sizeOf3 rfl rfl rfl) rfl ?_
            refine O.q (Qt.ld rfl (Cel.var 0 rfl) (o := 0) (off := 2) rfl (Cut.one Try.isAgg3 rfl)) rfl ?_
            refine O.p (Pu.eql rfl rfl) rfl ?_
            refine O.nil ?_
            refine J.cond rfl (fun h45 => ?_) (fun h45 => ?_)
            ·
              have p46 := of_decide_eq_true h45
              exfalso; omega
            ·
              have p47 := of_decide_eq_false h45
              refine J.skip ?_
              refine J.blk ?_
              refine J.region ?_
              refine O.p (Pu.move rfl) rfl ?_
              refine O.p (Pu.add' rfl rfl (by first | omega | (simp only [List.length_append, List.length_cons, List.length_nil, List.length_set]; omega))) rfl ?_
              refine O.p (Pu.assign rfl) rfl ?_
              refine O.nil ?_
              exact J.lp ⟨k + 1, V, out⟩ (show (k + 1) ≤ l.length ∧ out = upI Ld.tallyF (List.replicate 12 0) l (k + 1) ∧ out.length = 12 from ⟨by omega, (by rw [upI_succ (by assumption), ← hst]; first | exact (Ld.tally_open (by first | assumption | (simp [Ld.isOpen, *]; done)) (by assumption)).symm | exact (Ld.tally_erased (by first | assumption | (simp only [Ld.isOpen, Bool.and_eq_false_iff, decide_eq_false_iff_not]; omega)) (by assumption) (by assumption)).symm | exact (Ld.tally_over (by first | assumption | (simp only [Ld.isOpen, Bool.and_eq_false_iff, decide_eq_false_iff_not]; omega)) (by assumption) (by omega) (by omega) (by assumption)).symm | exact (Ld.tally_skip (by first | assumption | (simp only [Ld.isOpen, Bool.and_eq_false_iff, decide_eq_false_iff_not]; omega)) (by omega) (by omega)).symm), by simp [hlen]⟩) (show l.length - (k + 1) < l.length - k from (by first | omega | (simp only [List.length_append, List.length_cons, List.length_nil, List.length_set]; omega))) ⟨rfl, rfl, rfl, (congrArg (fun z => some (Value.int .i64 z)) (by first | rfl | omega : ((k : Int) + 1 : Int) = ((k + 1) : Int))), trivial⟩ [1] (by decide) rfl
        ·
          have p48 := of_decide_eq_false h29
          refine O.gskip (t := 34) rfl rfl (no_bool (by rw [h29]; decide)) rfl rfl ?_
          refine O.gskip (t := 34) rfl rfl (no_bool (by rw [h29]; decide)) rfl rfl ?_
          refine O.gskip (t := 34) rfl rfl (no_bool (by rw [h29]; decide)) rfl rfl ?_
          refine O.p (Pu.pickF rfl h29 rfl) rfl ?_
          refine O.p (Pu.move rfl) rfl ?_
          refine O.gskip (t := 39) rfl rfl (no_bool (by decide)) rfl rfl ?_
          refine O.gskip (t := 39) rfl rfl (no_bool (by decide)) rfl rfl ?_
          refine O.gskip (t := 39) rfl rfl (no_bool (by decide)) rfl rfl ?_
          refine O.p (Pu.pickF rfl rfl rfl) rfl ?_
          refine O.nil ?_
          refine J.condF rfl rfl ?_
          refine J.skip ?_
          refine J.seq ?_
          refine J.region ?_
          refine O.p (Pu.fieldAddr (off' := 2) Try.runUnderlying61 rfl Try.sizeOf3 rfl rfl rfl) rfl ?_
          refine O.q (Qt.ld rfl (Cel.var 0 rfl) (o := 0) (off := 2) rfl (Cut.one Try.isAgg3 rfl)) rfl ?_
          refine O.p (Pu.eql rfl rfl) rfl ?_
          refine O.nil ?_
          refine J.cond rfl (fun h49 => ?_) (fun h49 => ?_)
          ·
            have p50 := of_decide_eq_true h49
            refine J.region ?_
            refine O.p (Pu.move rfl) rfl ?_
            refine O.p (Pu.move rfl) rfl ?_
            obtain ⟨e51, he51⟩ : ∃ x_, out[11]? = some x_ := ⟨_, List.getElem?_eq_getElem (by first | omega | (simp only [List.length_append, List.length_cons, List.length_nil, List.length_set]; omega))⟩
            refine O.q (Qt.idxM Try.runUnderlying69 Try.sizeOf3 rfl (Src.row 1 rfl) rfl (by first | omega | (simp only [List.length_append, List.length_cons, List.length_nil, List.length_set]; omega)) (by first | omega | (simp only [List.length_append, List.length_cons, List.length_nil, List.length_set]; omega))) rfl ?_
            refine O.q (Qt.ld rfl (Cel.eltM (Src.row 1 rfl) he51) (o := (voff V + 11 * 1)) (off := 0) (by omega) (Cut.one Try.isAgg3 rfl)) rfl ?_
            refine O.p (Pu.add rfl rfl) rfl ?_
            refine O.q (Qt.idxM Try.runUnderlying69 Try.sizeOf3 rfl (Src.row 1 rfl) rfl (by first | omega | (simp only [List.length_append, List.length_cons, List.length_nil, List.length_set]; omega)) (by first | omega | (simp only [List.length_append, List.length_cons, List.length_nil, List.length_set]; omega))) rfl ?_
            refine O.l0 (Lo.storeM 1 (j := 11) (off := 0) (vs := [.int .i64 (IntKind.i64.wrap (e51 + 1))]) (e := [.int .i64 e51]) (IntKind.i64.wrap (e51 + 1)) rfl rfl rfl rfl (by omega) he51 rfl (by exact Try.sizeOf3) rfl rfl rfl rfl rfl) ?_
            rintro _ _ rfl
            have hs52 : (out.set 11 (IntKind.i64.wrap (e51 + 1)))[11]? = some (IntKind.i64.wrap (e51 + 1)) := List.getElem?_set_self (List.getElem?_eq_some_iff.1 he51).1
            refine O.nil ?_
            refine J.blk ?_
            refine J.region ?_
            refine O.p (Pu.move rfl) rfl ?_
            refine O.p (Pu.add' rfl rfl (by first | omega | (simp only [List.length_append, List.length_cons, List.length_nil, List.length_set]; omega))) rfl ?_
            refine O.p (Pu.assign rfl) rfl ?_
            refine O.nil ?_
            exact J.lp ⟨k + 1, V, out.set 11 (IntKind.i64.wrap (e51 + 1))⟩ (show (k + 1) ≤ l.length ∧ (out.set 11 (IntKind.i64.wrap (e51 + 1))) = upI Ld.tallyF (List.replicate 12 0) l (k + 1) ∧ (out.set 11 (IntKind.i64.wrap (e51 + 1))).length = 12 from ⟨by omega, (by rw [upI_succ (by assumption), ← hst]; first | exact (Ld.tally_open (by first | assumption | (simp [Ld.isOpen, *]; done)) (by assumption)).symm | exact (Ld.tally_erased (by first | assumption | (simp only [Ld.isOpen, Bool.and_eq_false_iff, decide_eq_false_iff_not]; omega)) (by assumption) (by assumption)).symm | exact (Ld.tally_over (by first | assumption | (simp only [Ld.isOpen, Bool.and_eq_false_iff, decide_eq_false_iff_not]; omega)) (by assumption) (by omega) (by omega) (by assumption)).symm | exact (Ld.tally_skip (by first | assumption | (simp only [Ld.isOpen, Bool.and_eq_false_iff, decide_eq_false_iff_not]; omega)) (by omega) (by omega)).symm), by simp [hlen]⟩) (show l.length - (k + 1) < l.length - k from (by first | omega | (simp only [List.length_append, List.length_cons, List.length_nil, List.length_set]; omega))) ⟨rfl, rfl, rfl, (congrArg (fun z => some (Value.int .i64 z)) (by first | rfl | omega : ((k : Int) + 1 : Int) = ((k + 1) : Int))), trivial⟩ [1] (by decide) rfl
          ·
            have p53 := of_decide_eq_false h49
            refine J.skip ?_
            refine J.blk ?_
            refine J.region ?_
            refine O.p (Pu.move rfl) rfl ?_
            refine O.p (Pu.add' rfl rfl (by first | omega | (simp only [List.length_append, List.length_cons, List.length_nil, List.length_set]; omega))) rfl ?_
            refine O.p (Pu.assign rfl) rfl ?_
            refine O.nil ?_
            exact J.lp ⟨k + 1, V, out⟩ (show (k + 1) ≤ l.length ∧ out = upI Ld.tallyF (List.replicate 12 0) l (k + 1) ∧ out.length = 12 from ⟨by omega, (by rw [upI_succ (by assumption), ← hst]; first | exact (Ld.tally_open (by first | assumption | (simp [Ld.isOpen, *]; done)) (by assumption)).symm | exact (Ld.tally_erased (by first | assumption | (simp only [Ld.isOpen, Bool.and_eq_false_iff, decide_eq_false_iff_not]; omega)) (by assumption) (by assumption)).symm | exact (Ld.tally_over (by first | assumption | (simp only [Ld.isOpen, Bool.and_eq_false_iff, decide_eq_false_iff_not]; omega)) (by assumption) (by omega) (by omega) (by assumption)).symm | exact (Ld.tally_skip (by first | assumption | (simp only [Ld.isOpen, Bool.and_eq_false_iff, decide_eq_false_iff_not]; omega)) (by omega) (by omega)).symm), by simp [hlen]⟩) (show l.length - (k + 1) < l.length - k from (by first | omega | (simp only [List.length_append, List.length_cons, List.length_nil, List.length_set]; omega))) ⟨rfl, rfl, rfl, (congrArg (fun z => some (Value.int .i64 z)) (by first | rfl | omega : ((k : Int) + 1 : Int) = ((k + 1) : Int))), trivial⟩ [1] (by decide) rfl
    ·
      have p54 := of_decide_eq_false h7
      refine O.gskip (t := 20) rfl rfl (no_bool (by rw [h7]; decide)) rfl rfl ?_
      refine O.gskip (t := 20) rfl rfl (no_bool (by rw [h7]; decide)) rfl rfl ?_
      refine O.gskip (t := 20) rfl rfl (no_bool (by rw [h7]; decide)) rfl rfl ?_
      refine O.p (Pu.pickF rfl h7 rfl) rfl ?_
      refine O.nil ?_
      refine J.condF rfl rfl ?_
      refine J.skip ?_
      refine J.seq ?_
      refine J.seq ?_
      refine J.region ?_
      refine O.p (Pu.fieldAddr (off' := 2) Try.runUnderlying61 rfl Try.sizeOf3 rfl rfl rfl) rfl ?_
      refine O.q (Qt.ld rfl (Cel.var 0 rfl) (o := 0) (off := 2) rfl (Cut.one Try.isAgg3 rfl)) rfl ?_
      refine O.p (Pu.eql rfl rfl) rfl ?_
      refine O.p (Pu.move rfl) rfl ?_
      refine by_bool (decide (e5.state = 4)) (fun h55 => ?_) (fun h55 => ?_)
      ·
        have p56 := of_decide_eq_true h55
        refine O.gq (t := 34) rfl rfl h55 rfl (Pu.qt (Pu.fieldAddr (off' := 4) Try.runUnderlying61 rfl Try.sizeOf3 rfl rfl rfl)) rfl ?_
        refine O.gq (t := 34) rfl rfl h55 rfl (Qt.ld rfl (Cel.var 0 rfl) (o := 0) (off := 4) rfl (Cut.one Try.isAgg3 rfl)) rfl ?_
        refine O.gq (t := 34) rfl rfl h55 rfl (Pu.qt (Pu.geq rfl rfl)) rfl ?_
        refine O.p (Pu.pickT rfl h55 rfl) rfl ?_
        refine O.p (Pu.move rfl) rfl ?_
        refine by_bool (decide (1 ≤ e5.code)) (fun h57 => ?_) (fun h57 => ?_)
        ·
          have p58 := of_decide_eq_true h57
          refine O.gq (t := 39) rfl rfl h57 rfl (Pu.qt (Pu.fieldAddr (off' := 4) Try.runUnderlying61 rfl Try.sizeOf3 rfl rfl rfl)) rfl ?_
          refine O.gq (t := 39) rfl rfl h57 rfl (Qt.ld rfl (Cel.var 0 rfl) (o := 0) (off := 4) rfl (Cut.one Try.isAgg3 rfl)) rfl ?_
          refine O.gq (t := 39) rfl rfl h57 rfl (Pu.qt (Pu.leq rfl rfl)) rfl ?_
          refine O.p (Pu.pickT rfl h57 rfl) rfl ?_
          refine O.nil ?_
          refine J.cond rfl (fun h59 => ?_) (fun h59 => ?_)
          ·
            have p60 := of_decide_eq_true h59
            refine J.drawTail 10 Try.mixed (by kernel_rfl) ?_
            refine S.p (Pu.move rfl) rfl ?_
            refine S.p (Pu.fieldAddr (off' := 4) Try.runUnderlying61 rfl Try.sizeOf3 rfl rfl rfl) rfl ?_
            refine S.q (Qt.ld rfl (Cel.var 0 rfl) (o := 0) (off := 4) rfl (Cut.one Try.isAgg3 rfl)) rfl ?_
            refine S.p (Pu.move rfl) rfl ?_
            refine S.p (Pu.fieldAddr (off' := 4) Try.runUnderlying61 rfl Try.sizeOf3 rfl rfl rfl) rfl ?_
            refine S.q (Qt.ld rfl (Cel.var 0 rfl) (o := 0) (off := 4) rfl (Cut.one Try.isAgg3 rfl)) rfl ?_
            obtain ⟨e61, he61⟩ : ∃ x_, out[(e5.code).toNat]? = some x_ := ⟨_, List.getElem?_eq_getElem (by first | omega | (simp only [List.length_append, List.length_cons, List.length_nil, List.length_set]; omega))⟩
            refine S.q (Qt.idxM Try.runUnderlying69 Try.sizeOf3 rfl (Src.row 1 rfl) rfl (by first | omega | (simp only [List.length_append, List.length_cons, List.length_nil, List.length_set]; omega)) (by first | omega | (simp only [List.length_append, List.length_cons, List.length_nil, List.length_set]; omega))) rfl ?_
            refine S.q (Qt.ld rfl (Cel.eltM (Src.row 1 rfl) he61) (o := (voff V + ((e5.code).toNat) * 1)) (off := 0) (by omega) (Cut.one Try.isAgg3 rfl)) rfl ?_
            refine S.p (Pu.add rfl rfl) rfl ?_
            refine S.q (Qt.idxM Try.runUnderlying69 Try.sizeOf3 rfl (Src.row 1 rfl) rfl (by first | omega | (simp only [List.length_append, List.length_cons, List.length_nil, List.length_set]; omega)) (by first | omega | (simp only [List.length_append, List.length_cons, List.length_nil, List.length_set]; omega))) rfl ?_
            refine S.endO ?_
            refine O.l0 (Lo.storeM 1 (j := (e5.code).toNat) (off := 0) (vs := [.int .i64 (IntKind.i64.wrap (e61 + 1))]) (e := [.int .i64 e61]) (IntKind.i64.wrap (e61 + 1)) rfl rfl rfl rfl (by omega) he61 rfl (by exact Try.sizeOf3) rfl rfl rfl rfl rfl) ?_
            rintro _ _ rfl
            have hs62 : (out.set (e5.code).toNat (IntKind.i64.wrap (e61 + 1)))[(e5.code).toNat]? = some (IntKind.i64.wrap (e61 + 1)) := List.getElem?_set_self (List.getElem?_eq_some_iff.1 he61).1
            refine O.nil ?_
            refine J.seq ?_
            refine J.region ?_
            refine O.p (Pu.fieldAddr (off' := 2) Try.runUnderlying61 rfl Try.sizeOf3 rfl rfl rfl) rfl ?_
            refine O.q (Qt.ld rfl (Cel.var 0 rfl) (o := 0) (off := 2) rfl (Cut.one Try.isAgg3 rfl)) rfl ?_
            refine O.p (Pu.eql rfl rfl) rfl ?_
            refine O.nil ?_
            refine J.cond rfl (fun h63 => ?_) (fun h63 => ?_)
            ·
              have p64 := of_decide_eq_true h63
              exfalso; omega
            ·
              have p65 := of_decide_eq_false h63
              refine J.skip ?_
              refine J.blk ?_
              refine J.region ?_
              refine O.p (Pu.move rfl) rfl ?_
              refine O.p (Pu.add' rfl rfl (by first | omega | (simp only [List.length_append, List.length_cons, List.length_nil, List.length_set]; omega))) rfl ?_
              refine O.p (Pu.assign rfl) rfl ?_
              refine O.nil ?_
              exact J.lp ⟨k + 1, V, out.set (e5.code).toNat (IntKind.i64.wrap (e61 + 1))⟩ (show (k + 1) ≤ l.length ∧ (out.set (e5.code).toNat (IntKind.i64.wrap (e61 + 1))) = upI Ld.tallyF (List.replicate 12 0) l (k + 1) ∧ (out.set (e5.code).toNat (IntKind.i64.wrap (e61 + 1))).length = 12 from ⟨by omega, (by rw [upI_succ (by assumption), ← hst]; first | exact (Ld.tally_open (by first | assumption | (simp [Ld.isOpen, *]; done)) (by assumption)).symm | exact (Ld.tally_erased (by first | assumption | (simp only [Ld.isOpen, Bool.and_eq_false_iff, decide_eq_false_iff_not]; omega)) (by assumption) (by assumption)).symm | exact (Ld.tally_over (by first | assumption | (simp only [Ld.isOpen, Bool.and_eq_false_iff, decide_eq_false_iff_not]; omega)) (by assumption) (by omega) (by omega) (by assumption)).symm | exact (Ld.tally_skip (by first | assumption | (simp only [Ld.isOpen, Bool.and_eq_false_iff, decide_eq_false_iff_not]; omega)) (by omega) (by omega)).symm), by simp [hlen]⟩) (show l.length - (k + 1) < l.length - k from (by first | omega | (simp only [List.length_append, List.length_cons, List.length_nil, List.length_set]; omega))) ⟨rfl, rfl, rfl, (congrArg (fun z => some (Value.int .i64 z)) (by first | rfl | omega : ((k : Int) + 1 : Int) = ((k + 1) : Int))), trivial⟩ [1] (by decide) rfl
          ·
            have p66 := of_decide_eq_false h59
            refine J.skip ?_
            refine J.seq ?_
            refine J.region ?_
            refine O.p (Pu.fieldAddr (off' := 2) Try.runUnderlying61 rfl Try.sizeOf3 rfl rfl rfl) rfl ?_
            refine O.q (Qt.ld rfl (Cel.var 0 rfl) (o := 0) (off := 2) rfl (Cut.one Try.isAgg3 rfl)) rfl ?_
            refine O.p (Pu.eql rfl rfl) rfl ?_
            refine O.nil ?_
            refine J.cond rfl (fun h67 => ?_) (fun h67 => ?_)
            ·
              have p68 := of_decide_eq_true h67
              exfalso; omega
            ·
              have p69 := of_decide_eq_false h67
              refine J.skip ?_
              refine J.blk ?_
              refine J.region ?_
              refine O.p (Pu.move rfl) rfl ?_
              refine O.p (Pu.add' rfl rfl (by first | omega | (simp only [List.length_append, List.length_cons, List.length_nil, List.length_set]; omega))) rfl ?_
              refine O.p (Pu.assign rfl) rfl ?_
              refine O.nil ?_
              exact J.lp ⟨k + 1, V, out⟩ (show (k + 1) ≤ l.length ∧ out = upI Ld.tallyF (List.replicate 12 0) l (k + 1) ∧ out.length = 12 from ⟨by omega, (by rw [upI_succ (by assumption), ← hst]; first | exact (Ld.tally_open (by first | assumption | (simp [Ld.isOpen, *]; done)) (by assumption)).symm | exact (Ld.tally_erased (by first | assumption | (simp only [Ld.isOpen, Bool.and_eq_false_iff, decide_eq_false_iff_not]; omega)) (by assumption) (by assumption)).symm | exact (Ld.tally_over (by first | assumption | (simp only [Ld.isOpen, Bool.and_eq_false_iff, decide_eq_false_iff_not]; omega)) (by assumption) (by omega) (by omega) (by assumption)).symm | exact (Ld.tally_skip (by first | assumption | (simp only [Ld.isOpen, Bool.and_eq_false_iff, decide_eq_false_iff_not]; omega)) (by omega) (by omega)).symm), by simp [hlen]⟩) (show l.length - (k + 1) < l.length - k from (by first | omega | (simp only [List.length_append, List.length_cons, List.length_nil, List.length_set]; omega))) ⟨rfl, rfl, rfl, (congrArg (fun z => some (Value.int .i64 z)) (by first | rfl | omega : ((k : Int) + 1 : Int) = ((k + 1) : Int))), trivial⟩ [1] (by decide) rfl
        ·
          have p70 := of_decide_eq_false h57
          refine O.gskip (t := 39) rfl rfl (no_bool (by rw [h57]; decide)) rfl rfl ?_
          refine O.gskip (t := 39) rfl rfl (no_bool (by rw [h57]; decide)) rfl rfl ?_
          refine O.gskip (t := 39) rfl rfl (no_bool (by rw [h57]; decide)) rfl rfl ?_
          refine O.p (Pu.pickF rfl h57 rfl) rfl ?_
          refine O.nil ?_
          refine J.condF rfl rfl ?_
          refine J.skip ?_
          refine J.seq ?_
          refine J.region ?_
          refine O.p (Pu.fieldAddr (off' := 2) Try.runUnderlying61 rfl Try.sizeOf3 rfl rfl rfl) rfl ?_
          refine O.q (Qt.ld rfl (Cel.var 0 rfl) (o := 0) (off := 2) rfl (Cut.one Try.isAgg3 rfl)) rfl ?_
          refine O.p (Pu.eql rfl rfl) rfl ?_
          refine O.nil ?_
          refine J.cond rfl (fun h71 => ?_) (fun h71 => ?_)
          ·
            have p72 := of_decide_eq_true h71
            exfalso; omega
          ·
            have p73 := of_decide_eq_false h71
            refine J.skip ?_
            refine J.blk ?_
            refine J.region ?_
            refine O.p (Pu.move rfl) rfl ?_
            refine O.p (Pu.add' rfl rfl (by first | omega | (simp only [List.length_append, List.length_cons, List.length_nil, List.length_set]; omega))) rfl ?_
            refine O.p (Pu.assign rfl) rfl ?_
            refine O.nil ?_
            exact J.lp ⟨k + 1, V, out⟩ (show (k + 1) ≤ l.length ∧ out = upI Ld.tallyF (List.replicate 12 0) l (k + 1) ∧ out.length = 12 from ⟨by omega, (by rw [upI_succ (by assumption), ← hst]; first | exact (Ld.tally_open (by first | assumption | (simp [Ld.isOpen, *]; done)) (by assumption)).symm | exact (Ld.tally_erased (by first | assumption | (simp only [Ld.isOpen, Bool.and_eq_false_iff, decide_eq_false_iff_not]; omega)) (by assumption) (by assumption)).symm | exact (Ld.tally_over (by first | assumption | (simp only [Ld.isOpen, Bool.and_eq_false_iff, decide_eq_false_iff_not]; omega)) (by assumption) (by omega) (by omega) (by assumption)).symm | exact (Ld.tally_skip (by first | assumption | (simp only [Ld.isOpen, Bool.and_eq_false_iff, decide_eq_false_iff_not]; omega)) (by omega) (by omega)).symm), by simp [hlen]⟩) (show l.length - (k + 1) < l.length - k from (by first | omega | (simp only [List.length_append, List.length_cons, List.length_nil, List.length_set]; omega))) ⟨rfl, rfl, rfl, (congrArg (fun z => some (Value.int .i64 z)) (by first | rfl | omega : ((k : Int) + 1 : Int) = ((k + 1) : Int))), trivial⟩ [1] (by decide) rfl
      ·
        have p74 := of_decide_eq_false h55
        refine O.gskip (t := 34) rfl rfl (no_bool (by rw [h55]; decide)) rfl rfl ?_
        refine O.gskip (t := 34) rfl rfl (no_bool (by rw [h55]; decide)) rfl rfl ?_
        refine O.gskip (t := 34) rfl rfl (no_bool (by rw [h55]; decide)) rfl rfl ?_
        refine O.p (Pu.pickF rfl h55 rfl) rfl ?_
        refine O.p (Pu.move rfl) rfl ?_
        refine O.gskip (t := 39) rfl rfl (no_bool (by decide)) rfl rfl ?_
        refine O.gskip (t := 39) rfl rfl (no_bool (by decide)) rfl rfl ?_
        refine O.gskip (t := 39) rfl rfl (no_bool (by decide)) rfl rfl ?_
        refine O.p (Pu.pickF rfl rfl rfl) rfl ?_
        refine O.nil ?_
        refine J.condF rfl rfl ?_
        refine J.skip ?_
        refine J.seq ?_
        refine J.region ?_
        refine O.p (Pu.fieldAddr (off' := 2) Try.runUnderlying61 rfl Try.sizeOf3 rfl rfl rfl) rfl ?_
        refine O.q (Qt.ld rfl (Cel.var 0 rfl) (o := 0) (off := 2) rfl (Cut.one Try.isAgg3 rfl)) rfl ?_
        refine O.p (Pu.eql rfl rfl) rfl ?_
        refine O.nil ?_
        refine J.cond rfl (fun h75 => ?_) (fun h75 => ?_)
        ·
          have p76 := of_decide_eq_true h75
          refine J.region ?_
          refine O.p (Pu.move rfl) rfl ?_
          refine O.p (Pu.move rfl) rfl ?_
          obtain ⟨e77, he77⟩ : ∃ x_, out[11]? = some x_ := ⟨_, List.getElem?_eq_getElem (by first | omega | (simp only [List.length_append, List.length_cons, List.length_nil, List.length_set]; omega))⟩
          refine O.q (Qt.idxM Try.runUnderlying69 Try.sizeOf3 rfl (Src.row 1 rfl) rfl (by first | omega | (simp only [List.length_append, List.length_cons, List.length_nil, List.length_set]; omega)) (by first | omega | (simp only [List.length_append, List.length_cons, List.length_nil, List.length_set]; omega))) rfl ?_
          refine O.q (Qt.ld rfl (Cel.eltM (Src.row 1 rfl) he77) (o := (voff V + 11 * 1)) (off := 0) (by omega) (Cut.one Try.isAgg3 rfl)) rfl ?_
          refine O.p (Pu.add rfl rfl) rfl ?_
          refine O.q (Qt.idxM Try.runUnderlying69 Try.sizeOf3 rfl (Src.row 1 rfl) rfl (by first | omega | (simp only [List.length_append, List.length_cons, List.length_nil, List.length_set]; omega)) (by first | omega | (simp only [List.length_append, List.length_cons, List.length_nil, List.length_set]; omega))) rfl ?_
          refine O.l0 (Lo.storeM 1 (j := 11) (off := 0) (vs := [.int .i64 (IntKind.i64.wrap (e77 + 1))]) (e := [.int .i64 e77]) (IntKind.i64.wrap (e77 + 1)) rfl rfl rfl rfl (by omega) he77 rfl (by exact Try.sizeOf3) rfl rfl rfl rfl rfl) ?_
          rintro _ _ rfl
          have hs78 : (out.set 11 (IntKind.i64.wrap (e77 + 1)))[11]? = some (IntKind.i64.wrap (e77 + 1)) := List.getElem?_set_self (List.getElem?_eq_some_iff.1 he77).1
          refine O.nil ?_
          refine J.blk ?_
          refine J.region ?_
          refine O.p (Pu.move rfl) rfl ?_
          refine O.p (Pu.add' rfl rfl (by first | omega | (simp only [List.length_append, List.length_cons, List.length_nil, List.length_set]; omega))) rfl ?_
          refine O.p (Pu.assign rfl) rfl ?_
          refine O.nil ?_
          exact J.lp ⟨k + 1, V, out.set 11 (IntKind.i64.wrap (e77 + 1))⟩ (show (k + 1) ≤ l.length ∧ (out.set 11 (IntKind.i64.wrap (e77 + 1))) = upI Ld.tallyF (List.replicate 12 0) l (k + 1) ∧ (out.set 11 (IntKind.i64.wrap (e77 + 1))).length = 12 from ⟨by omega, (by rw [upI_succ (by assumption), ← hst]; first | exact (Ld.tally_open (by first | assumption | (simp [Ld.isOpen, *]; done)) (by assumption)).symm | exact (Ld.tally_erased (by first | assumption | (simp only [Ld.isOpen, Bool.and_eq_false_iff, decide_eq_false_iff_not]; omega)) (by assumption) (by assumption)).symm | exact (Ld.tally_over (by first | assumption | (simp only [Ld.isOpen, Bool.and_eq_false_iff, decide_eq_false_iff_not]; omega)) (by assumption) (by omega) (by omega) (by assumption)).symm | exact (Ld.tally_skip (by first | assumption | (simp only [Ld.isOpen, Bool.and_eq_false_iff, decide_eq_false_iff_not]; omega)) (by omega) (by omega)).symm), by simp [hlen]⟩) (show l.length - (k + 1) < l.length - k from (by first | omega | (simp only [List.length_append, List.length_cons, List.length_nil, List.length_set]; omega))) ⟨rfl, rfl, rfl, (congrArg (fun z => some (Value.int .i64 z)) (by first | rfl | omega : ((k : Int) + 1 : Int) = ((k + 1) : Int))), trivial⟩ [1] (by decide) rfl
        ·
          have p79 := of_decide_eq_false h75
          refine J.skip ?_
          refine J.blk ?_
          refine J.region ?_
          refine O.p (Pu.move rfl) rfl ?_
          refine O.p (Pu.add' rfl rfl (by first | omega | (simp only [List.length_append, List.length_cons, List.length_nil, List.length_set]; omega))) rfl ?_
          refine O.p (Pu.assign rfl) rfl ?_
          refine O.nil ?_
          exact J.lp ⟨k + 1, V, out⟩ (show (k + 1) ≤ l.length ∧ out = upI Ld.tallyF (List.replicate 12 0) l (k + 1) ∧ out.length = 12 from ⟨by omega, (by rw [upI_succ (by assumption), ← hst]; first | exact (Ld.tally_open (by first | assumption | (simp [Ld.isOpen, *]; done)) (by assumption)).symm | exact (Ld.tally_erased (by first | assumption | (simp only [Ld.isOpen, Bool.and_eq_false_iff, decide_eq_false_iff_not]; omega)) (by assumption) (by assumption)).symm | exact (Ld.tally_over (by first | assumption | (simp only [Ld.isOpen, Bool.and_eq_false_iff, decide_eq_false_iff_not]; omega)) (by assumption) (by omega) (by omega) (by assumption)).symm | exact (Ld.tally_skip (by first | assumption | (simp only [Ld.isOpen, Bool.and_eq_false_iff, decide_eq_false_iff_not]; omega)) (by omega) (by omega)).symm), by simp [hlen]⟩) (show l.length - (k + 1) < l.length - k from (by first | omega | (simp only [List.length_append, List.length_cons, List.length_nil, List.length_set]; omega))) ⟨rfl, rfl, rfl, (congrArg (fun z => some (Value.int .i64 z)) (by first | rfl | omega : ((k : Int) + 1 : Int) = ((k + 1) : Int))), trivial⟩ [1] (by decide) rfl
  ·
    have p80 := of_decide_eq_false h3
    refine J.exit _ rfl ?_
    refine J.seq ?_
    refine J.region ?_
    refine O.p (Pu.move rfl) rfl ?_
    refine O.p (Pu.assign rfl) rfl ?_
    refine O.nil ?_
    exact J.ret (Fin.ret (rs := [.tmp 2]) rfl [_] ⟨rfl, trivial⟩ [0] (by decide) [row V 3 1 (out.map encN)] rfl (congrArg (fun (o : List Int) => ([row V 3 1 (o.map encN)] : List Sp)) (show out = Ld.tally l from (by have hk2 : k = l.length := (by omega); rw [Ld.tally, ← hk2, ← hst]))))

end Go.Proofs.Ytghhjhjpccipaaa
