/-
  Walks, printed by a program of mine (lk.py): each function meets its contract.
-/
import Derived.KernelRfl
import Derived.Test.YtghhjhjpccipaaaLD8
import Derived.Test.YtghhjhjpccipaaaNums41b
import Derived.Test.YtghhjhjpccipaaaLedger1
namespace Go.Proofs.Ytghhjhjpccipaaa
open Go Go.LK
set_option linter.unusedSimpArgs false

set_option maxRecDepth 100000 in
theorem ld_Tally (fv : Value) (l : List Ft) (hl : l.length ≤ 80000) : Tri Try.prog 36 #[fv] [rd fv 8 (l.map Ft.cells)] [] (fun v L' => L' = [row v 3 1 ((Ld.tally l).map encN)]) := by
  refine Tri.enter (args := [fv]) (body := _) 53 Try.func36 rfl Try.ntmps36 rfl ?_
  intro w0
  refine J.seq ?_
  refine J.region ?_
  refine O.p (Pu.assign rfl) rfl ?_
  refine O.nil ?_
  refine J.seq ?_
  refine J.region ?_
  refine O.l (Lo.makeSlice (n := 12) (s := 1) (bytes := 8) ((List.replicate 12 (0 : Int)).map encN) (by exact Try.runUnderlying69) (fun w => run_typeInfo w (by exact (info3).1)) (by exact (info3).2.2.2) (by exact Try.sizeOf3) (by exact Try.zeroValue3) rfl rfl rfl rfl rfl (by kernel_rfl) rfl rfl) rfl ?_
  rintro V1 _ rfl
  refine O.p (Pu.assign rfl) rfl ?_
  refine O.nil ?_
  refine J.seq ?_
  refine J.seq ?_
  refine J.region ?_
  refine O.p (Pu.move rfl) rfl ?_
  refine O.q (Qt.lenM Try.runUnderlying55 rfl (Src.ro 0 rfl)) rfl ?_
  refine O.p (Pu.move rfl) rfl ?_
  refine O.nil ?_
  refine J.block ?_
  refine J.loop (X := Nat × Value × List Int) (fun ξ => ξ.1 ≤ l.length ∧ ξ.2.2 = upI Ld.tallyF (List.replicate 12 0) l ξ.1 ∧ ξ.2.2.length = 12) (fun ξ => [(2, Value.slice none 0 0), (3, ξ.2.1), (7, fv), (8, .int .i64 (l.length : Int)), (9, .int .i64 (ξ.1 : Int))]) (fun ξ => [row ξ.2.1 3 1 (ξ.2.2.map encN)]) (fun ξ => l.length - ξ.1) ⟨0, V1, List.replicate 12 0⟩ (show 0 ≤ l.length ∧ (List.replicate 12 0) = upI Ld.tallyF (List.replicate 12 0) l 0 ∧ (List.replicate 12 0).length = 12 from ⟨by omega, rfl, rfl⟩) ⟨rfl, rfl, rfl, rfl, (congrArg (fun z => some (Value.int .i64 z)) (by first | rfl | omega : (0 : Int) = (0 : Int))), trivial⟩ [0] (by decide) rfl ?_
  rintro ⟨k, V, out⟩ hq2
  obtain ⟨hk, hst, hlen⟩ : k ≤ l.length ∧ out = upI Ld.tallyF (List.replicate 12 0) l k ∧ out.length = 12 := hq2
  show J _ _ [(2, Value.slice none 0 0), (3, V), (7, fv), (8, .int .i64 (l.length : Int)), (9, .int .i64 (k : Int))] [row V 3 1 (out.map encN)]
  refine J.seq ?_
  refine J.region ?_
  refine O.p (Pu.lss rfl rfl) rfl ?_
  refine O.nil ?_
  refine J.seq ?_
  refine J.cond rfl (fun h3 => ?_) (fun h3 => ?_)
  ·
    have p4 := of_decide_eq_true h3
    refine J.skip ?_
    refine J.seq ?_
    refine J.block ?_
    refine J.seq ?_
    refine J.region ?_
    obtain ⟨e5, he5⟩ : ∃ x_, l[k]? = some x_ := ⟨_, List.getElem?_eq_getElem (by first | omega | (simp only [List.length_append, List.length_cons, List.length_nil, List.length_set]; omega))⟩
    refine O.q (Qt.idxM Try.runUnderlying55 Try.sizeOf61 rfl (Src.ro 0 rfl) rfl (by first | omega | (simp only [List.length_append, List.length_cons, List.length_nil, List.length_set]; omega)) (by first | omega | (simp only [List.length_append, List.length_cons, List.length_nil, List.length_set]; omega))) rfl ?_
    refine O.q (Qt.ld rfl (Cel.eltM (Src.ro 0 rfl) he5) (o := (voff fv + k * 8)) (off := 0) (by omega) (Cut.agg [.int .i64 e5.s, .int .i64 e5.id, .int .i64 e5.state, .int .i64 e5.level, .int .i64 e5.code, .int .i64 e5.came, .int .i64 e5.began, .int .i64 e5.ended] Try.isAgg61 Try.sizeOf61 rfl rfl)) rfl ?_
    refine O.l (Lo.alloc [.int .i64 0, .int .i64 0, .int .i64 0, .int .i64 0, .int .i64 0, .int .i64 0, .int .i64 0, .int .i64 0] (by exact Try.zeroValue61) rfl) rfl ?_
    rintro _ _ ⟨g6, rfl, rfl⟩
    refine O.l0 (Lo.store 0 (vs := [.int .i64 e5.s, .int .i64 e5.id, .int .i64 e5.state, .int .i64 e5.level, .int .i64 e5.code, .int .i64 e5.came, .int .i64 e5.began, .int .i64 e5.ended]) [.int .i64 e5.s, .int .i64 e5.id, .int .i64 e5.state, .int .i64 e5.level, .int .i64 e5.code, .int .i64 e5.came, .int .i64 e5.began, .int .i64 e5.ended] rfl rfl rfl (by exact Try.sizeOf61) rfl rfl rfl rfl rfl) ?_
    rintro _ _ rfl
    refine O.nil ?_
    refine J.block ?_
    refine J.seq ?_
    refine J.region ?_
    refine O.q (Qt.ld rfl (Cel.var 0 rfl) (o := 0) (off := 0) rfl (Cut.agg [.int .i64 e5.s, .int .i64 e5.id, .int .i64 e5.state, .int .i64 e5.level, .int .i64 e5.code, .int .i64 e5.came, .int .i64 e5.began, .int .i64 e5.ended] Try.isAgg61 Try.sizeOf61 rfl rfl)) rfl ?_
    refine O.l (Lo.call [.agg #[.int .i64 e5.s, .int .i64 e5.id, .int .i64 e5.state, .int .i64 e5.level, .int .i64 e5.code, .int .i64 e5.came, .int .i64 e5.began, .int .i64 e5.ended]] (by exact Try.call74) rfl (ld_open e5) [] [0, 1] (by decide) rfl _ rfl RoOk.nil) rfl ?_
    rintro _ _ ⟨_, ⟨rfl, rfl⟩, rfl⟩
    refine O.p (Pu.assign rfl) rfl ?_
    refine O.nil ?_
    refine J.cond rfl (fun h8 => ?_) (fun h8 => ?_)
    ·
      refine J.region ?_
      refine O.p (Pu.move rfl) rfl ?_
      obtain ⟨e9, he9⟩ : ∃ x_, out[0]? = some x_ := ⟨_, List.getElem?_eq_getElem (by first | omega | (simp only [List.length_append, List.length_cons, List.length_nil, List.length_set]; omega))⟩
      refine O.q (Qt.idxM Try.runUnderlying69 Try.sizeOf3 rfl (Src.row 1 rfl) rfl (by first | omega | (simp only [List.length_append, List.length_cons, List.length_nil, List.length_set]; omega)) (by first | omega | (simp only [List.length_append, List.length_cons, List.length_nil, List.length_set]; omega))) rfl ?_
      refine O.q (Qt.ld rfl (Cel.eltM (Src.row 1 rfl) he9) (o := (voff V + 0 * 1)) (off := 0) (by omega) (Cut.one Try.isAgg3 rfl)) rfl ?_
      refine O.p (Pu.add rfl rfl) rfl ?_
      refine O.q (Qt.idxM Try.runUnderlying69 Try.sizeOf3 rfl (Src.row 1 rfl) rfl (by first | omega | (simp only [List.length_append, List.length_cons, List.length_nil, List.length_set]; omega)) (by first | omega | (simp only [List.length_append, List.length_cons, List.length_nil, List.length_set]; omega))) rfl ?_
      refine O.l0 (Lo.storeM 1 (j := 0) (off := 0) (vs := [.int .i64 (IntKind.i64.wrap (e9 + 1))]) (e := [.int .i64 e9]) (IntKind.i64.wrap (e9 + 1)) rfl rfl rfl rfl (by omega) he9 rfl (by exact Try.sizeOf3) rfl rfl rfl rfl rfl) ?_
      rintro _ _ rfl
      have hs10 : (out.set 0 (IntKind.i64.wrap (e9 + 1)))[0]? = some (IntKind.i64.wrap (e9 + 1)) := List.getElem?_set_self (List.getElem?_eq_some_iff.1 he9).1
      refine O.nil ?_
      refine J.blk ?_
      refine J.blk ?_
      refine J.region ?_
      refine O.p (Pu.add' rfl rfl (by first | omega | (simp only [List.length_append, List.length_cons, List.length_nil, List.length_set]; omega))) rfl ?_
      refine O.p (Pu.move rfl) rfl ?_
      refine O.nil ?_
      exact J.lp ⟨k + 1, V, out.set 0 (IntKind.i64.wrap (e9 + 1))⟩ (show (k + 1) ≤ l.length ∧ (out.set 0 (IntKind.i64.wrap (e9 + 1))) = upI Ld.tallyF (List.replicate 12 0) l (k + 1) ∧ (out.set 0 (IntKind.i64.wrap (e9 + 1))).length = 12 from ⟨by omega, (by rw [upI_succ (by assumption), ← hst]; first | exact (Ld.tally_open (by first | assumption | (simp [Ld.isOpen, *]; done)) (by assumption)).symm | exact (Ld.tally_erased (by first | assumption | (simp only [Ld.isOpen, Bool.and_eq_false_iff, decide_eq_false_iff_not]; omega)) (by assumption) (by assumption)).symm | exact (Ld.tally_over (by first | assumption | (simp only [Ld.isOpen, Bool.and_eq_false_iff, decide_eq_false_iff_not]; omega)) (by assumption) (by omega) (by omega) (by assumption)).symm | exact (Ld.tally_skip (by first | assumption | (simp only [Ld.isOpen, Bool.and_eq_false_iff, decide_eq_false_iff_not]; omega)) (by omega) (by omega)).symm), by simp [hlen]⟩) (show l.length - (k + 1) < l.length - k from (by first | omega | (simp only [List.length_append, List.length_cons, List.length_nil, List.length_set]; omega))) ⟨rfl, rfl, rfl, rfl, (congrArg (fun z => some (Value.int .i64 z)) (by first | rfl | omega : ((k : Int) + 1 : Int) = ((k + 1) : Int))), trivial⟩ [1] (by decide) rfl
    ·
      refine J.seq ?_
      refine J.region ?_
      refine O.p (Pu.fieldAddr (off' := 2) Try.runUnderlying61 rfl Try.sizeOf3 rfl rfl rfl) rfl ?_
      refine O.q (Qt.ld rfl (Cel.var 0 rfl) (o := 0) (off := 2) rfl (Cut.one Try.isAgg3 rfl)) rfl ?_
      refine O.p (Pu.eql rfl rfl) rfl ?_
      refine O.p (Pu.assign rfl) rfl ?_
      refine O.nil ?_
      refine J.cond rfl (fun h11 => ?_) (fun h11 => ?_)
      ·
        have p12 := of_decide_eq_true h11
        refine J.region ?_
        refine O.p (Pu.move rfl) rfl ?_
        obtain ⟨e13, he13⟩ : ∃ x_, out[11]? = some x_ := ⟨_, List.getElem?_eq_getElem (by first | omega | (simp only [List.length_append, List.length_cons, List.length_nil, List.length_set]; omega))⟩
        refine O.q (Qt.idxM Try.runUnderlying69 Try.sizeOf3 rfl (Src.row 1 rfl) rfl (by first | omega | (simp only [List.length_append, List.length_cons, List.length_nil, List.length_set]; omega)) (by first | omega | (simp only [List.length_append, List.length_cons, List.length_nil, List.length_set]; omega))) rfl ?_
        refine O.q (Qt.ld rfl (Cel.eltM (Src.row 1 rfl) he13) (o := (voff V + 11 * 1)) (off := 0) (by omega) (Cut.one Try.isAgg3 rfl)) rfl ?_
        refine O.p (Pu.add rfl rfl) rfl ?_
        refine O.q (Qt.idxM Try.runUnderlying69 Try.sizeOf3 rfl (Src.row 1 rfl) rfl (by first | omega | (simp only [List.length_append, List.length_cons, List.length_nil, List.length_set]; omega)) (by first | omega | (simp only [List.length_append, List.length_cons, List.length_nil, List.length_set]; omega))) rfl ?_
        refine O.l0 (Lo.storeM 1 (j := 11) (off := 0) (vs := [.int .i64 (IntKind.i64.wrap (e13 + 1))]) (e := [.int .i64 e13]) (IntKind.i64.wrap (e13 + 1)) rfl rfl rfl rfl (by omega) he13 rfl (by exact Try.sizeOf3) rfl rfl rfl rfl rfl) ?_
        rintro _ _ rfl
        have hs14 : (out.set 11 (IntKind.i64.wrap (e13 + 1)))[11]? = some (IntKind.i64.wrap (e13 + 1)) := List.getElem?_set_self (List.getElem?_eq_some_iff.1 he13).1
        refine O.nil ?_
        refine J.blk ?_
        refine J.blk ?_
        refine J.region ?_
        refine O.p (Pu.add' rfl rfl (by first | omega | (simp only [List.length_append, List.length_cons, List.length_nil, List.length_set]; omega))) rfl ?_
        refine O.p (Pu.move rfl) rfl ?_
        refine O.nil ?_
        exact J.lp ⟨k + 1, V, out.set 11 (IntKind.i64.wrap (e13 + 1))⟩ (show (k + 1) ≤ l.length ∧ (out.set 11 (IntKind.i64.wrap (e13 + 1))) = upI Ld.tallyF (List.replicate 12 0) l (k + 1) ∧ (out.set 11 (IntKind.i64.wrap (e13 + 1))).length = 12 from ⟨by omega, (by rw [upI_succ (by assumption), ← hst]; first | exact (Ld.tally_open (by first | assumption | (simp [Ld.isOpen, *]; done)) (by assumption)).symm | exact (Ld.tally_erased (by first | assumption | (simp only [Ld.isOpen, Bool.and_eq_false_iff, decide_eq_false_iff_not]; omega)) (by assumption) (by assumption)).symm | exact (Ld.tally_over (by first | assumption | (simp only [Ld.isOpen, Bool.and_eq_false_iff, decide_eq_false_iff_not]; omega)) (by assumption) (by omega) (by omega) (by assumption)).symm | exact (Ld.tally_skip (by first | assumption | (simp only [Ld.isOpen, Bool.and_eq_false_iff, decide_eq_false_iff_not]; omega)) (by omega) (by omega)).symm), by simp [hlen]⟩) (show l.length - (k + 1) < l.length - k from (by first | omega | (simp only [List.length_append, List.length_cons, List.length_nil, List.length_set]; omega))) ⟨rfl, rfl, rfl, rfl, (congrArg (fun z => some (Value.int .i64 z)) (by first | rfl | omega : ((k : Int) + 1 : Int) = ((k + 1) : Int))), trivial⟩ [1] (by decide) rfl
      ·
        have p15 := of_decide_eq_false h11
        refine J.seq ?_
        refine J.region ?_
        refine O.p (Pu.fieldAddr (off' := 2) Try.runUnderlying61 rfl Try.sizeOf3 rfl rfl rfl) rfl ?_
        refine O.q (Qt.ld rfl (Cel.var 0 rfl) (o := 0) (off := 2) rfl (Cut.one Try.isAgg3 rfl)) rfl ?_
        refine O.p (Pu.eql rfl rfl) rfl ?_
        refine O.p (Pu.move rfl) rfl ?_
        refine by_bool (decide (e5.state = 4)) (fun h16 => ?_) (fun h16 => ?_)
        ·
          have p17 := of_decide_eq_true h16
          refine O.gq (t := 34) rfl rfl h16 rfl (Pu.qt (Pu.fieldAddr (off' := 4) Try.runUnderlying61 rfl Try.sizeOf3 rfl rfl rfl)) rfl ?_
          refine O.gq (t := 34) rfl rfl h16 rfl (Qt.ld rfl (Cel.var 0 rfl) (o := 0) (off := 4) rfl (Cut.one Try.isAgg3 rfl)) rfl ?_
          refine O.gq (t := 34) rfl rfl h16 rfl (Pu.qt (Pu.geq rfl rfl)) rfl ?_
          refine O.p (Pu.pickT rfl h16 rfl) rfl ?_
          refine O.p (Pu.move rfl) rfl ?_
          refine by_bool (decide (1 ≤ e5.code)) (fun h18 => ?_) (fun h18 => ?_)
          ·
            have p19 := of_decide_eq_true h18
            refine O.gq (t := 39) rfl rfl h18 rfl (Pu.qt (Pu.fieldAddr (off' := 4) Try.runUnderlying61 rfl Try.sizeOf3 rfl rfl rfl)) rfl ?_
            refine O.gq (t := 39) rfl rfl h18 rfl (Qt.ld rfl (Cel.var 0 rfl) (o := 0) (off := 4) rfl (Cut.one Try.isAgg3 rfl)) rfl ?_
            refine O.gq (t := 39) rfl rfl h18 rfl (Pu.qt (Pu.leq rfl rfl)) rfl ?_
            refine O.p (Pu.pickT rfl h18 rfl) rfl ?_
            refine O.p (Pu.assign rfl) rfl ?_
            refine O.nil ?_
            refine J.cond rfl (fun h20 => ?_) (fun h20 => ?_)
            ·
              have p21 := of_decide_eq_true h20
              refine J.region ?_
              refine O.p (Pu.move rfl) rfl ?_
              refine O.p (Pu.fieldAddr (off' := 4) Try.runUnderlying61 rfl Try.sizeOf3 rfl rfl rfl) rfl ?_
              refine O.q (Qt.ld rfl (Cel.var 0 rfl) (o := 0) (off := 4) rfl (Cut.one Try.isAgg3 rfl)) rfl ?_
              obtain ⟨e22, he22⟩ : ∃ x_, out[(e5.code).toNat]? = some x_ := ⟨_, List.getElem?_eq_getElem (by first | omega | (simp only [List.length_append, List.length_cons, List.length_nil, List.length_set]; omega))⟩
              refine O.q (Qt.idxM Try.runUnderlying69 Try.sizeOf3 rfl (Src.row 1 rfl) rfl (by first | omega | (simp only [List.length_append, List.length_cons, List.length_nil, List.length_set]; omega)) (by first | omega | (simp only [List.length_append, List.length_cons, List.length_nil, List.length_set]; omega))) rfl ?_
              refine O.q (Qt.ld rfl (Cel.eltM (Src.row 1 rfl) he22) (o := (voff V + ((e5.code).toNat) * 1)) (off := 0) (by omega) (Cut.one Try.isAgg3 rfl)) rfl ?_
              refine O.p (Pu.add rfl rfl) rfl ?_
              refine O.q (Qt.idxM Try.runUnderlying69 Try.sizeOf3 rfl (Src.row 1 rfl) rfl (by first | omega | (simp only [List.length_append, List.length_cons, List.length_nil, List.length_set]; omega)) (by first | omega | (simp only [List.length_append, List.length_cons, List.length_nil, List.length_set]; omega))) rfl ?_
              refine O.l0 (Lo.storeM 1 (j := (e5.code).toNat) (off := 0) (vs := [.int .i64 (IntKind.i64.wrap (e22 + 1))]) (e := [.int .i64 e22]) (IntKind.i64.wrap (e22 + 1)) rfl rfl rfl rfl (by omega) he22 rfl (by exact Try.sizeOf3) rfl rfl rfl rfl rfl) ?_
              rintro _ _ rfl
              have hs23 : (out.set (e5.code).toNat (IntKind.i64.wrap (e22 + 1)))[(e5.code).toNat]? = some (IntKind.i64.wrap (e22 + 1)) := List.getElem?_set_self (List.getElem?_eq_some_iff.1 he22).1
              refine O.nil ?_
              refine J.blk ?_
              refine J.blk ?_
              refine J.region ?_
              refine O.p (Pu.add' rfl rfl (by first | omega | (simp only [List.length_append, List.length_cons, List.length_nil, List.length_set]; omega))) rfl ?_
              refine O.p (Pu.move rfl) rfl ?_
              refine O.nil ?_
              exact J.lp ⟨k + 1, V, out.set (e5.code).toNat (IntKind.i64.wrap (e22 + 1))⟩ (show (k + 1) ≤ l.length ∧ (out.set (e5.code).toNat (IntKind.i64.wrap (e22 + 1))) = upI Ld.tallyF (List.replicate 12 0) l (k + 1) ∧ (out.set (e5.code).toNat (IntKind.i64.wrap (e22 + 1))).length = 12 from ⟨by omega, (by rw [upI_succ (by assumption), ← hst]; first | exact (Ld.tally_open (by first | assumption | (simp [Ld.isOpen, *]; done)) (by assumption)).symm | exact (Ld.tally_erased (by first | assumption | (simp only [Ld.isOpen, Bool.and_eq_false_iff, decide_eq_false_iff_not]; omega)) (by assumption) (by assumption)).symm | exact (Ld.tally_over (by first | assumption | (simp only [Ld.isOpen, Bool.and_eq_false_iff, decide_eq_false_iff_not]; omega)) (by assumption) (by omega) (by omega) (by assumption)).symm | exact (Ld.tally_skip (by first | assumption | (simp only [Ld.isOpen, Bool.and_eq_false_iff, decide_eq_false_iff_not]; omega)) (by omega) (by omega)).symm), by simp [hlen]⟩) (show l.length - (k + 1) < l.length - k from (by first | omega | (simp only [List.length_append, List.length_cons, List.length_nil, List.length_set]; omega))) ⟨rfl, rfl, rfl, rfl, (congrArg (fun z => some (Value.int .i64 z)) (by first | rfl | omega : ((k : Int) + 1 : Int) = ((k + 1) : Int))), trivial⟩ [1] (by decide) rfl
            ·
              have p24 := of_decide_eq_false h20
              refine J.skip ?_
              refine J.blk ?_
              refine J.blk ?_
              refine J.region ?_
              refine O.p (Pu.add' rfl rfl (by first | omega | (simp only [List.length_append, List.length_cons, List.length_nil, List.length_set]; omega))) rfl ?_
              refine O.p (Pu.move rfl) rfl ?_
              refine O.nil ?_
              exact J.lp ⟨k + 1, V, out⟩ (show (k + 1) ≤ l.length ∧ out = upI Ld.tallyF (List.replicate 12 0) l (k + 1) ∧ out.length = 12 from ⟨by omega, (by rw [upI_succ (by assumption), ← hst]; first | exact (Ld.tally_open (by first | assumption | (simp [Ld.isOpen, *]; done)) (by assumption)).symm | exact (Ld.tally_erased (by first | assumption | (simp only [Ld.isOpen, Bool.and_eq_false_iff, decide_eq_false_iff_not]; omega)) (by assumption) (by assumption)).symm | exact (Ld.tally_over (by first | assumption | (simp only [Ld.isOpen, Bool.and_eq_false_iff, decide_eq_false_iff_not]; omega)) (by assumption) (by omega) (by omega) (by assumption)).symm | exact (Ld.tally_skip (by first | assumption | (simp only [Ld.isOpen, Bool.and_eq_false_iff, decide_eq_false_iff_not]; omega)) (by omega) (by omega)).symm), by simp [hlen]⟩) (show l.length - (k + 1) < l.length - k from (by first | omega | (simp only [List.length_append, List.length_cons, List.length_nil, List.length_set]; omega))) ⟨rfl, rfl, rfl, rfl, (congrArg (fun z => some (Value.int .i64 z)) (by first | rfl | omega : ((k : Int) + 1 : Int) = ((k + 1) : Int))), trivial⟩ [1] (by decide) rfl
          ·
            have p25 := of_decide_eq_false h18
            refine O.gskip (t := 39) rfl rfl (no_bool (by rw [h18]; decide)) rfl rfl ?_
            refine O.gskip (t := 39) rfl rfl (no_bool (by rw [h18]; decide)) rfl rfl ?_
            refine O.gskip (t := 39) rfl rfl (no_bool (by rw [h18]; decide)) rfl rfl ?_
            refine O.p (Pu.pickF rfl h18 rfl) rfl ?_
            refine O.p (Pu.assign rfl) rfl ?_
            refine O.nil ?_
            refine J.condF rfl rfl ?_
            refine J.skip ?_
            refine J.blk ?_
            refine J.blk ?_
            refine J.region ?_
            refine O.p (Pu.add' rfl rfl (by first | omega | (simp only [List.length_append, List.length_cons, List.length_nil, List.length_set]; omega))) rfl ?_
            refine O.p (Pu.move rfl) rfl ?_
            refine O.nil ?_
            exact J.lp ⟨k + 1, V, out⟩ (show (k + 1) ≤ l.length ∧ out = upI Ld.tallyF (List.replicate 12 0) l (k + 1) ∧ out.length = 12 from ⟨by omega, (by rw [upI_succ (by assumption), ← hst]; first | exact (Ld.tally_open (by first | assumption | (simp [Ld.isOpen, *]; done)) (by assumption)).symm | exact (Ld.tally_erased (by first | assumption | (simp only [Ld.isOpen, Bool.and_eq_false_iff, decide_eq_false_iff_not]; omega)) (by assumption) (by assumption)).symm | exact (Ld.tally_over (by first | assumption | (simp only [Ld.isOpen, Bool.and_eq_false_iff, decide_eq_false_iff_not]; omega)) (by assumption) (by omega) (by omega) (by assumption)).symm | exact (Ld.tally_skip (by first | assumption | (simp only [Ld.isOpen, Bool.and_eq_false_iff, decide_eq_false_iff_not]; omega)) (by omega) (by omega)).symm), by simp [hlen]⟩) (show l.length - (k + 1) < l.length - k from (by first | omega | (simp only [List.length_append, List.length_cons, List.length_nil, List.length_set]; omega))) ⟨rfl, rfl, rfl, rfl, (congrArg (fun z => some (Value.int .i64 z)) (by first | rfl | omega : ((k : Int) + 1 : Int) = ((k + 1) : Int))), trivial⟩ [1] (by decide) rfl
        ·
          have p26 := of_decide_eq_false h16
          refine O.gskip (t := 34) rfl rfl (no_bool (by rw [h16]; decide)) rfl rfl ?_
          refine O.gskip (t := 34) rfl rfl (no_bool (by rw [h16]; decide)) rfl rfl ?_
          refine O.gskip (t := 34) rfl rfl (no_bool (by rw [h16]; decide)) rfl rfl ?_
          refine O.p (Pu.pickF rfl h16 rfl) rfl ?_
          refine O.p (Pu.move rfl) rfl ?_
          refine O.gskip (t := 39) rfl rfl (no_bool (by decide)) rfl rfl ?_
          refine O.gskip (t := 39) rfl rfl (no_bool (by decide)) rfl rfl ?_
          refine O.gskip (t := 39) rfl rfl (no_bool (by decide)) rfl rfl ?_
          refine O.p (Pu.pickF rfl rfl rfl) rfl ?_
          refine O.p (Pu.assign rfl) rfl ?_
          refine O.nil ?_
          refine J.condF rfl rfl ?_
          refine J.skip ?_
          refine J.blk ?_
          refine J.blk ?_
          refine J.region ?_
          refine O.p (Pu.add' rfl rfl (by first | omega | (simp only [List.length_append, List.length_cons, List.length_nil, List.length_set]; omega))) rfl ?_
          refine O.p (Pu.move rfl) rfl ?_
          refine O.nil ?_
          exact J.lp ⟨k + 1, V, out⟩ (show (k + 1) ≤ l.length ∧ out = upI Ld.tallyF (List.replicate 12 0) l (k + 1) ∧ out.length = 12 from ⟨by omega, (by rw [upI_succ (by assumption), ← hst]; first | exact (Ld.tally_open (by first | assumption | (simp [Ld.isOpen, *]; done)) (by assumption)).symm | exact (Ld.tally_erased (by first | assumption | (simp only [Ld.isOpen, Bool.and_eq_false_iff, decide_eq_false_iff_not]; omega)) (by assumption) (by assumption)).symm | exact (Ld.tally_over (by first | assumption | (simp only [Ld.isOpen, Bool.and_eq_false_iff, decide_eq_false_iff_not]; omega)) (by assumption) (by omega) (by omega) (by assumption)).symm | exact (Ld.tally_skip (by first | assumption | (simp only [Ld.isOpen, Bool.and_eq_false_iff, decide_eq_false_iff_not]; omega)) (by omega) (by omega)).symm), by simp [hlen]⟩) (show l.length - (k + 1) < l.length - k from (by first | omega | (simp only [List.length_append, List.length_cons, List.length_nil, List.length_set]; omega))) ⟨rfl, rfl, rfl, rfl, (congrArg (fun z => some (Value.int .i64 z)) (by first | rfl | omega : ((k : Int) + 1 : Int) = ((k + 1) : Int))), trivial⟩ [1] (by decide) rfl
  ·
    have p27 := of_decide_eq_false h3
    refine J.exit _ rfl ?_
    refine J.seq ?_
    refine J.region ?_
    refine O.p (Pu.move rfl) rfl ?_
    refine O.p (Pu.assign rfl) rfl ?_
    refine O.nil ?_
    exact J.ret (Fin.ret (rs := [.tmp 2]) rfl [_] ⟨rfl, trivial⟩ [0] (by decide) [row V 3 1 (out.map encN)] rfl (congrArg (fun (o : List Int) => ([row V 3 1 (o.map encN)] : List Sp)) (show out = Ld.tally l from (by have hk2 : k = l.length := (by omega); rw [Ld.tally, ← hk2, ← hst]))))

end Go.Proofs.Ytghhjhjpccipaaa
