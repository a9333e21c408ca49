/-
  Walks, printed by a program of mine (lk.py): each function meets its contract.
-/
import Derived.KernelRfl
import Derived.Test.YtghhjhjpccipaaaLD1
namespace Go.Proofs.Ytghhjhjpccipaaa
open Go Go.LK
set_option linter.unusedSimpArgs false

def ruleM : List (List Int × Value) := [([3], .agg #[.func (.func 92) #[] #[], .func (.func 93) #[] #[]]), ([4], .agg #[.func (.func 94) #[] #[], .func (.func 95) #[] #[]]), ([12], .agg #[.func (.func 96) #[] #[], .func (.func 98) #[] #[]]), ([5], .agg #[.func (.func 90) #[] #[], .func (.func 91) #[] #[]]), ([6], .agg #[.func (.func 90) #[] #[], .func (.func 91) #[] #[]])]

set_option maxRecDepth 100000 in
theorem ld_rules  : Tri Try.prog 70 #[] [] [] (fun v L' => ∃ b, v = .map (some b) ∧ L' = [mp b encI 1 ruleM]) := by
  refine Tri.enter (args := []) (body := _) 10 Try.func70 rfl Try.ntmps70 rfl ?_
  intro w0
  refine J.seq ?_
  refine J.region ?_
  refine O.p (Pu.assign rfl) rfl ?_
  refine O.nil ?_
  refine J.seq ?_
  refine J.region ?_
  refine O.p (Pu.build [(0, .func (.func 90) #[] #[]), (1, .func (.func 91) #[] #[])] [.func (.func 90) #[] #[], .func (.func 91) #[] #[]] #[(0, 1), (1, 1)] Try.runUnderlying148 Try.zeroValue148 (places148 Try.underlying148) rfl (by kernel_rfl)) rfl ?_
  refine O.l (Lo.alloc [Value.nilFunc, Value.nilFunc] (by exact Try.zeroValue148) rfl) rfl ?_
  rintro _ _ ⟨g1, rfl, rfl⟩
  refine O.l0 (Lo.store 0 (vs := [.func (.func 90) #[] #[], .func (.func 91) #[] #[]]) [.func (.func 90) #[] #[], .func (.func 91) #[] #[]] rfl rfl rfl (by exact Try.sizeOf148) rfl rfl rfl rfl rfl) ?_
  rintro _ _ rfl
  refine O.nil ?_
  refine J.seq ?_
  refine J.region ?_
  refine O.l (Lo.makeMap encI 1) rfl ?_
  rintro _ _ ⟨b2, rfl, rfl⟩
  refine O.p (Pu.build [(0, .func (.func 92) #[] #[]), (1, .func (.func 93) #[] #[])] [.func (.func 92) #[] #[], .func (.func 93) #[] #[]] #[(0, 1), (1, 1)] Try.runUnderlying148 Try.zeroValue148 (places148 Try.underlying148) rfl (by kernel_rfl)) rfl ?_
  refine O.l0 (Lo.insert 0 (key := [3]) (by exact Try.underlying120) (KT.int (by exact Try.underlying3)) rfl rfl rfl rfl rfl rfl) ?_
  rintro _ _ rfl
  refine O.p (Pu.build [(0, .func (.func 94) #[] #[]), (1, .func (.func 95) #[] #[])] [.func (.func 94) #[] #[], .func (.func 95) #[] #[]] #[(0, 1), (1, 1)] Try.runUnderlying148 Try.zeroValue148 (places148 Try.underlying148) rfl (by kernel_rfl)) rfl ?_
  refine O.l0 (Lo.insert 0 (key := [4]) (by exact Try.underlying120) (KT.int (by exact Try.underlying3)) rfl rfl rfl rfl rfl rfl) ?_
  rintro _ _ rfl
  refine O.p (Pu.build [(0, .func (.func 96) #[] #[]), (1, .func (.func 98) #[] #[])] [.func (.func 96) #[] #[], .func (.func 98) #[] #[]] #[(0, 1), (1, 1)] Try.runUnderlying148 Try.zeroValue148 (places148 Try.underlying148) rfl (by kernel_rfl)) rfl ?_
  refine O.l0 (Lo.insert 0 (key := [12]) (by exact Try.underlying120) (KT.int (by exact Try.underlying3)) rfl rfl rfl rfl rfl rfl) ?_
  rintro _ _ rfl
  refine O.q (Qt.ld rfl (Cel.var 1 rfl) (o := 0) (off := 0) rfl (Cut.agg [.func (.func 90) #[] #[], .func (.func 91) #[] #[]] Try.isAgg148 Try.sizeOf148 rfl rfl)) rfl ?_
  refine O.l0 (Lo.insert 0 (key := [5]) (by exact Try.underlying120) (KT.int (by exact Try.underlying3)) rfl rfl rfl rfl rfl rfl) ?_
  rintro _ _ rfl
  refine O.q (Qt.ld rfl (Cel.var 1 rfl) (o := 0) (off := 0) rfl (Cut.agg [.func (.func 90) #[] #[], .func (.func 91) #[] #[]] Try.isAgg148 Try.sizeOf148 rfl rfl)) rfl ?_
  refine O.l0 (Lo.insert 0 (key := [6]) (by exact Try.underlying120) (KT.int (by exact Try.underlying3)) rfl rfl rfl rfl rfl rfl) ?_
  rintro _ _ rfl
  refine O.p (Pu.move rfl) rfl ?_
  refine O.p (Pu.assign rfl) rfl ?_
  refine O.nil ?_
  exact J.ret (Fin.ret (rs := [.tmp 0]) rfl [_] ⟨rfl, trivial⟩ [0] (by decide) [mp b2 encI 1 [([3], .agg #[.func (.func 92) #[] #[], .func (.func 93) #[] #[]]), ([4], .agg #[.func (.func 94) #[] #[], .func (.func 95) #[] #[]]), ([12], .agg #[.func (.func 96) #[] #[], .func (.func 98) #[] #[]]), ([5], .agg #[.func (.func 90) #[] #[], .func (.func 91) #[] #[]]), ([6], .agg #[.func (.func 90) #[] #[], .func (.func 91) #[] #[]])]] rfl ⟨b2, rfl, rfl⟩)

set_option maxRecDepth 100000 in
theorem ld_came (gb b1 b2 : Nat) (V : Value) (out : List Ft) (pm : List (List Int × Int)) (e : Ev) (hfit : Ld.Fits pm out) (hlen : out.length ≤ 100000) : Tri Try.prog 99 #[.pointer (some ⟨gb, 0, none⟩), .agg #[.int .i64 e.kind, .int .i64 e.tick, .int .i64 e.s, .int .i64 e.id, .int .i64 e.code, .int .i64 e.a, .int .i64 e.b]] [] [var gb [V, .map (some b1), .map (some b2)] 123, row V 61 8 (out.map Ft.cells), mp b1 encR 2 (pm.map fun p => (p.1, Value.int .i64 p.2))] (fun v L' => ∃ V' pm' out', v = .bool (Ld.cameF out e).isSome ∧ out' = (Ld.cameF out e).getD out ∧ Ld.Fits pm' out' ∧ L' = [var gb [V', .map (some b1), .map (some b2)] 123, row V' 61 8 (out'.map Ft.cells), mp b1 encR 2 (pm'.map fun p => (p.1, Value.int .i64 p.2))]) := by
  refine Tri.enter (args := [.pointer (some ⟨gb, 0, none⟩), .agg #[.int .i64 e.kind, .int .i64 e.tick, .int .i64 e.s, .int .i64 e.id, .int .i64 e.code, .int .i64 e.a, .int .i64 e.b]]) (body := _) 69 Try.func99 rfl Try.ntmps99 rfl ?_
  intro w0
  refine J.seq ?_
  refine J.region ?_
  refine O.l (Lo.box [.int .i64 e.kind, .int .i64 e.tick, .int .i64 e.s, .int .i64 e.id, .int .i64 e.code, .int .i64 e.a, .int .i64 e.b] rfl rfl) rfl ?_
  rintro _ _ ⟨g1, rfl, rfl⟩
  refine O.p (Pu.assign rfl) rfl ?_
  refine O.nil ?_
  refine J.seq ?_
  refine J.region ?_
  refine O.p (Pu.fieldAddr (off' := 2) Try.runUnderlying93 rfl Try.sizeOf3 rfl rfl rfl) rfl ?_
  refine O.q (Qt.ld rfl (Cel.var 0 rfl) (o := 0) (off := 2) rfl (Cut.one Try.isAgg3 rfl)) rfl ?_
  refine O.p (Pu.fieldAddr (off' := 3) Try.runUnderlying93 rfl Try.sizeOf3 rfl rfl rfl) rfl ?_
  refine O.q (Qt.ld rfl (Cel.var 0 rfl) (o := 0) (off := 3) rfl (Cut.one Try.isAgg3 rfl)) rfl ?_
  refine O.p (Pu.build [(0, .int .i64 e.s), (1, .int .i64 e.id)] [.int .i64 e.s, .int .i64 e.id] #[(0, 1), (1, 1)] Try.runUnderlying129 Try.zeroValue129 (places129 Try.underlying129) rfl (by kernel_rfl)) rfl ?_
  refine O.l (Lo.alloc [.int .i64 0, .int .i64 0] (by exact Try.zeroValue129) rfl) rfl ?_
  rintro _ _ ⟨g2, rfl, rfl⟩
  refine O.l0 (Lo.store 0 (vs := [.int .i64 e.s, .int .i64 e.id]) [.int .i64 e.s, .int .i64 e.id] rfl rfl rfl (by exact Try.sizeOf129) rfl rfl rfl rfl rfl) ?_
  rintro _ _ rfl
  refine O.nil ?_
  refine J.seq ?_
  refine J.seq ?_
  refine J.drawStill Try.mixed (by kernel_rfl) ?_
  refine S.p (Pu.move rfl) rfl ?_
  refine S.p (Pu.nilCheck rfl) rfl ?_
  refine S.p (Pu.fieldAddr (off' := 1) Try.runUnderlying123 rfl Try.sizeOf119 rfl rfl rfl) rfl ?_
  refine S.q (Qt.ld rfl (Cel.var 2 rfl) (o := 0) (off := 1) rfl (Cut.one Try.isAgg119 rfl)) rfl ?_
  refine S.q (Qt.ld rfl (Cel.var 0 rfl) (o := 0) (off := 0) rfl (Cut.agg [.int .i64 e.s, .int .i64 e.id] Try.isAgg129 Try.sizeOf129 rfl rfl)) rfl ?_
  refine S.q (Qt.lookI 4 (key := [e.s, e.id]) Try.underlying119 (KT.str Try.underlying129 Try.stoodInHeld129 (fint129 Try.underlying129)) Try.zeroValue3 rfl rfl rfl rfl rfl) rfl ?_
  refine S.p (Pu.move rfl) rfl ?_
  refine S.p (Pu.extract rfl rfl) rfl ?_
  refine S.p (Pu.extract rfl rfl) rfl ?_
  refine S.p (Pu.assign rfl) rfl ?_
  refine S.p (Pu.assign rfl) rfl ?_
  refine S.endJ ?_
  refine J.seq ?_
  refine J.region ?_
  refine O.p (Pu.move rfl) rfl ?_
  refine O.p (Pu.move rfl) rfl ?_
  refine by_bool ((getM pm [e.s, e.id]).isSome) (fun h3 => ?_) (fun h3 => ?_)
  ·
    refine O.gq (t := 24) rfl rfl h3 rfl (Pu.qt (Pu.move rfl)) rfl ?_
    refine O.gq (t := 24) rfl rfl h3 rfl (Pu.qt (Pu.nilCheck rfl)) rfl ?_
    refine O.gq (t := 24) rfl rfl h3 rfl (Pu.qt (Pu.fieldAddr (off' := 0) Try.runUnderlying123 rfl Try.sizeOf55 rfl rfl rfl)) rfl ?_
    refine O.gq (t := 24) rfl rfl h3 rfl (Qt.ld rfl (Cel.var 2 rfl) (o := 0) (off := 0) rfl (Cut.one Try.isAgg55 rfl)) rfl ?_
    refine O.gq (t := 24) rfl rfl h3 rfl (Pu.qt (Pu.move rfl)) rfl ?_
    obtain ⟨e4, he4⟩ : ∃ x_, out[((getM pm [e.s, e.id]).getD 0).toNat]? = some x_ := ⟨_, List.getElem?_eq_getElem (by first | omega | exact (Ld.fits_at hfit (by assumption)).1 | exact (Ld.fits_at hfit (by assumption)).2.1 | exact (Ld.fits_at hfit (by assumption)).2.2.1 | (simp only [List.length_append, List.length_cons, List.length_nil, List.length_set]; omega))⟩
    refine O.gq (t := 24) rfl rfl h3 rfl (Qt.idxM Try.runUnderlying55 Try.sizeOf61 rfl (Src.row 3 rfl) rfl (by first | omega | exact (Ld.fits_at hfit (by assumption)).1 | exact (Ld.fits_at hfit (by assumption)).2.1 | exact (Ld.fits_at hfit (by assumption)).2.2.1 | (simp only [List.length_append, List.length_cons, List.length_nil, List.length_set]; omega)) (by first | omega | exact (Ld.fits_at hfit (by assumption)).1 | exact (Ld.fits_at hfit (by assumption)).2.1 | exact (Ld.fits_at hfit (by assumption)).2.2.1 | (simp only [List.length_append, List.length_cons, List.length_nil, List.length_set]; omega))) rfl ?_
    refine O.gq (t := 24) rfl rfl h3 rfl (Qt.ld rfl (Cel.eltM (Src.row 3 rfl) he4) (o := (voff V + (((getM pm [e.s, e.id]).getD 0).toNat) * 8)) (off := 0) (by omega) (Cut.agg [.int .i64 e4.s, .int .i64 e4.id, .int .i64 e4.state, .int .i64 e4.level, .int .i64 e4.code, .int .i64 e4.came, .int .i64 e4.began, .int .i64 e4.ended] Try.isAgg61 Try.sizeOf61 rfl rfl)) rfl ?_
    refine O.gl (t := 24) rfl rfl h3 rfl (Lo.call [.agg #[.int .i64 e4.s, .int .i64 e4.id, .int .i64 e4.state, .int .i64 e4.level, .int .i64 e4.code, .int .i64 e4.came, .int .i64 e4.began, .int .i64 e4.ended]] (by exact Try.call74) rfl (ld_open e4) [] [0, 1, 2, 3, 4] (by decide) rfl _ rfl RoOk.nil) rfl ?_
    rintro _ _ ⟨_, ⟨rfl, rfl⟩, rfl⟩
    refine O.p (Pu.pickT rfl h3 rfl) rfl ?_
    refine O.nil ?_
    refine J.cond rfl (fun h6 => ?_) (fun h6 => ?_)
    ·
      refine J.seq ?_
      refine J.region ?_
      refine O.p (Pu.assign rfl) rfl ?_
      refine O.nil ?_
      exact J.ret (Fin.ret (rs := [.tmp 4]) rfl [_] ⟨rfl, trivial⟩ [2, 3, 4] (by decide) [var gb [V, .map (some b1), .map (some b2)] 123, row V 61 8 (out.map Ft.cells), mp b1 encR 2 (pm.map fun p => (p.1, Value.int .i64 p.2))] rfl ⟨V, pm, out, (by rw [Ld.cameF_open hfit (by assumption) (by assumption) (by assumption)]; rfl), (by rw [Ld.cameF_open hfit (by assumption) (by assumption) (by assumption)]; rfl), hfit, rfl⟩)
    ·
      refine J.skip ?_
      refine J.seq ?_
      refine J.region ?_
      refine O.p (Pu.fieldAddr (off' := 2) Try.runUnderlying93 rfl Try.sizeOf3 rfl rfl rfl) rfl ?_
      refine O.q (Qt.ld rfl (Cel.var 1 rfl) (o := 0) (off := 2) rfl (Cut.one Try.isAgg3 rfl)) rfl ?_
      refine O.p (Pu.fieldAddr (off' := 3) Try.runUnderlying93 rfl Try.sizeOf3 rfl rfl rfl) rfl ?_
      refine O.q (Qt.ld rfl (Cel.var 1 rfl) (o := 0) (off := 3) rfl (Cut.one Try.isAgg3 rfl)) rfl ?_
      refine O.p (Pu.fieldAddr (off' := 5) Try.runUnderlying93 rfl Try.sizeOf3 rfl rfl rfl) rfl ?_
      refine O.q (Qt.ld rfl (Cel.var 1 rfl) (o := 0) (off := 5) rfl (Cut.one Try.isAgg3 rfl)) rfl ?_
      refine O.p (Pu.fieldAddr (off' := 4) Try.runUnderlying93 rfl Try.sizeOf3 rfl rfl rfl) rfl ?_
      refine O.q (Qt.ld rfl (Cel.var 1 rfl) (o := 0) (off := 4) rfl (Cut.one Try.isAgg3 rfl)) rfl ?_
      refine O.p (Pu.fieldAddr (off' := 1) Try.runUnderlying93 rfl Try.sizeOf3 rfl rfl rfl) rfl ?_
      refine O.q (Qt.ld rfl (Cel.var 1 rfl) (o := 0) (off := 1) rfl (Cut.one Try.isAgg3 rfl)) rfl ?_
      refine O.p (Pu.build [(0, .int .i64 e.s), (1, .int .i64 e.id), (2, .int .i64 2), (3, .int .i64 e.a), (4, .int .i64 e.code), (5, .int .i64 e.tick)] [.int .i64 e.s, .int .i64 e.id, .int .i64 2, .int .i64 e.a, .int .i64 e.code, .int .i64 e.tick, .int .i64 0, .int .i64 0] #[(0, 1), (1, 1), (2, 1), (3, 1), (4, 1), (5, 1), (6, 1), (7, 1)] Try.runUnderlying61 Try.zeroValue61 (places61 Try.underlying61) rfl (by kernel_rfl)) rfl ?_
      refine O.l (Lo.alloc [.int .i64 0, .int .i64 0, .int .i64 0, .int .i64 0, .int .i64 0, .int .i64 0, .int .i64 0, .int .i64 0] (by exact Try.zeroValue61) rfl) rfl ?_
      rintro _ _ ⟨g7, rfl, rfl⟩
      refine O.l0 (Lo.store 0 (vs := [.int .i64 e.s, .int .i64 e.id, .int .i64 2, .int .i64 e.a, .int .i64 e.code, .int .i64 e.tick, .int .i64 0, .int .i64 0]) [.int .i64 e.s, .int .i64 e.id, .int .i64 2, .int .i64 e.a, .int .i64 e.code, .int .i64 e.tick, .int .i64 0, .int .i64 0] rfl rfl rfl (by exact Try.sizeOf61) rfl rfl rfl rfl rfl) ?_
      rintro _ _ rfl
      refine O.nil ?_
      refine J.seq ?_
      refine J.seq ?_
      refine J.region ?_
      refine O.p (Pu.fieldAddr (off' := 4) Try.runUnderlying93 rfl Try.sizeOf3 rfl rfl rfl) rfl ?_
      refine O.q (Qt.ld rfl (Cel.var 2 rfl) (o := 0) (off := 4) rfl (Cut.one Try.isAgg3 rfl)) rfl ?_
      refine O.p (Pu.neq rfl rfl) rfl ?_
      refine O.nil ?_
      refine J.cond rfl (fun h8 => ?_) (fun h8 => ?_)
      ·
        have p9 := of_decide_eq_true h8
        refine J.region ?_
        refine O.p (Pu.fieldAddr (off' := 2) Try.runUnderlying61 rfl Try.sizeOf3 rfl rfl rfl) rfl ?_
        refine O.l0 (Lo.store 0 (vs := [.int .i64 1]) [.int .i64 e.s, .int .i64 e.id, .int .i64 1, .int .i64 e.a, .int .i64 e.code, .int .i64 e.tick, .int .i64 0, .int .i64 0] rfl rfl rfl (by exact Try.sizeOf3) rfl rfl rfl rfl rfl) ?_
        rintro _ _ rfl
        refine O.nil ?_
        refine J.seq ?_
        refine J.drawTail 10 Try.mixed (by kernel_rfl) ?_
        refine S.p (Pu.move rfl) rfl ?_
        refine S.p (Pu.nilCheck rfl) rfl ?_
        refine S.p (Pu.fieldAddr (off' := 1) Try.runUnderlying123 rfl Try.sizeOf119 rfl rfl rfl) rfl ?_
        refine S.q (Qt.ld rfl (Cel.var 3 rfl) (o := 0) (off := 1) rfl (Cut.one Try.isAgg119 rfl)) rfl ?_
        refine S.q (Qt.ld rfl (Cel.var 1 rfl) (o := 0) (off := 0) rfl (Cut.agg [.int .i64 e.s, .int .i64 e.id] Try.isAgg129 Try.sizeOf129 rfl rfl)) rfl ?_
        refine S.p (Pu.move rfl) rfl ?_
        refine S.p (Pu.nilCheck rfl) rfl ?_
        refine S.p (Pu.fieldAddr (off' := 0) Try.runUnderlying123 rfl Try.sizeOf55 rfl rfl rfl) rfl ?_
        refine S.q (Qt.ld rfl (Cel.var 3 rfl) (o := 0) (off := 0) rfl (Cut.one Try.isAgg55 rfl)) rfl ?_
        refine S.q (Qt.lenM Try.runUnderlying55 rfl (Src.row 4 rfl)) rfl ?_
        refine S.endO ?_
        refine O.l0 (Lo.mapUpdI 5 (key := [e.s, e.id]) (by exact Try.underlying119) (KT.str (by exact Try.underlying129) Try.stoodInHeld129 (fint129 (by exact Try.underlying129))) rfl rfl rfl rfl rfl rfl) ?_
        rintro _ _ rfl
        refine O.nil ?_
        refine J.seq ?_
        refine J.drawMix [(0, false), (1, false), (2, false), (3, false), (4, false), (5, false), (6, true), (7, true), (8, false), (9, false), (10, true)] [0, 3] [var g7 [.int .i64 e.s, .int .i64 e.id, .int .i64 1, .int .i64 e.a, .int .i64 e.code, .int .i64 e.tick, .int .i64 0, .int .i64 0] 61, var gb [V, .map (some b1), .map (some b2)] 123] Try.mixed (by kernel_rfl) (by decide) rfl ?_
        refine Mx.p rfl (Pu.move rfl) rfl ?_
        refine Mx.p rfl (Pu.move rfl) rfl ?_
        refine Mx.p rfl (Pu.nilCheck rfl) rfl ?_
        refine Mx.p rfl (Pu.fieldAddr (off' := 0) Try.runUnderlying123 rfl Try.sizeOf55 rfl rfl rfl) rfl ?_
        refine Mx.q rfl (Qt.ld rfl (Cel.var 1 rfl) (o := 0) (off := 0) rfl (Cut.one Try.isAgg55 rfl)) rfl ?_
        refine Mx.q rfl (Qt.ld rfl (Cel.var 0 rfl) (o := 0) (off := 0) rfl (Cut.agg [.int .i64 e.s, .int .i64 e.id, .int .i64 1, .int .i64 e.a, .int .i64 e.code, .int .i64 e.tick, .int .i64 0, .int .i64 0] Try.isAgg61 Try.sizeOf61 rfl rfl)) rfl ?_
        refine Mx.l rfl (Lo.buildM (s := 8) Ft.cells [(⟨e.s, e.id, 1, e.a, e.code, e.tick, 0, 0⟩ : Ft)] [(0, .agg #[.int .i64 e.s, .int .i64 e.id, .int .i64 1, .int .i64 e.a, .int .i64 e.code, .int .i64 e.tick, .int .i64 0, .int .i64 0])] (by exact Try.runUnderlying55) (by exact Try.sizeOf61) (by exact Try.zeroValue61) rfl rfl rfl (by kernel_rfl) rfl rfl) rfl ?_
        rintro V10 _ rfl
        refine MxK.go [1, 4] [0, 1] [var g7 [.int .i64 e.s, .int .i64 e.id, .int .i64 1, .int .i64 e.a, .int .i64 e.code, .int .i64 e.tick, .int .i64 0, .int .i64 0] 61, var gb [V, .map (some b1), .map (some b2)] 123] (by decide) rfl (by decide) rfl ?_
        refine Mx.l rfl (Lo.appendM (s := 8) 5 (by exact Try.underlying55) (by exact (info61).1) (by exact (info61).2.1) (by exact (info61).2.2.1) (by exact (info61).2.2.2) rfl rfl rfl rfl rfl (Src.row 0 rfl) Ft.one (by first | omega | exact (Ld.fits_at hfit (by assumption)).1 | exact (Ld.fits_at hfit (by assumption)).2.1 | exact (Ld.fits_at hfit (by assumption)).2.2.1 | (simp only [List.length_append, List.length_cons, List.length_nil, List.length_set]; omega)) (by first | omega | exact (Ld.fits_at hfit (by assumption)).1 | exact (Ld.fits_at hfit (by assumption)).2.1 | exact (Ld.fits_at hfit (by assumption)).2.2.1 | (simp only [List.length_append, List.length_cons, List.length_nil, List.length_set]; omega))) rfl ?_
        rintro V11 _ rfl
        refine MxK.go [1, 4] [0, 1] [var g7 [.int .i64 e.s, .int .i64 e.id, .int .i64 1, .int .i64 e.a, .int .i64 e.code, .int .i64 e.tick, .int .i64 0, .int .i64 0] 61, var gb [V, .map (some b1), .map (some b2)] 123] (by decide) rfl (by decide) rfl ?_
        refine Mx.p rfl (Pu.nilCheck rfl) rfl ?_
        refine Mx.p rfl (Pu.fieldAddr (off' := 0) Try.runUnderlying123 rfl Try.sizeOf55 rfl rfl rfl) rfl ?_
        refine Mx.one rfl (fun _ h => by cases h <;> rfl) (Src.row 5 rfl) (fun hV12 => ?_)
        refine Mx.l0 rfl (Lo.store 4 (vs := [V11]) [V11, .map (some b1), .map (some b2)] rfl rfl rfl (by exact Try.sizeOf55) (one_cells hV12) rfl (one_all hV12) rfl rfl) ?_
        rintro _ _ rfl
        refine MxK.all [1, 4] [var g7 [.int .i64 e.s, .int .i64 e.id, .int .i64 1, .int .i64 e.a, .int .i64 e.code, .int .i64 e.tick, .int .i64 0, .int .i64 0] 61, var gb [V11, .map (some b1), .map (some b2)] 123] (by decide) rfl (by kernel_rfl) ?_
        refine Mx.nil ?_
        refine J.seq ?_
        refine J.region ?_
        refine O.p (Pu.assign rfl) rfl ?_
        refine O.nil ?_
        exact J.ret (Fin.ret (rs := [.tmp 4]) rfl [_] ⟨rfl, trivial⟩ [4, 5, 6] (by decide) [var gb [V11, .map (some b1), .map (some b2)] 123, row V11 61 8 ((out ++ ([(⟨e.s, e.id, 1, e.a, e.code, e.tick, 0, 0⟩ : Ft)])).map Ft.cells), mp b1 encR 2 ((setM pm [e.s, e.id] (out.length : Int)).map fun p => (p.1, Value.int .i64 p.2))] rfl ⟨V11, setM pm [e.s, e.id] (out.length : Int), out ++ ([(⟨e.s, e.id, 1, e.a, e.code, e.tick, 0, 0⟩ : Ft)]), (by rw [(show Ld.cameF out e = some (out ++ [Ld.fresh e]) from (by first | exact Ld.cameF_new hfit (by assumption) | exact Ld.cameF_shut hfit (by assumption) (by assumption) (by assumption)))]; rfl), (by rw [(show Ld.cameF out e = some (out ++ [Ld.fresh e]) from (by first | exact Ld.cameF_new hfit (by assumption) | exact Ld.cameF_shut hfit (by assumption) (by assumption) (by assumption)))]; simp [Ld.fresh, *]), Ld.fits_app' hfit rfl rfl, rfl⟩)
      ·
        have p13 := of_decide_eq_false h8
        refine J.skip ?_
        refine J.seq ?_
        refine J.drawTail 10 Try.mixed (by kernel_rfl) ?_
        refine S.p (Pu.move rfl) rfl ?_
        refine S.p (Pu.nilCheck rfl) rfl ?_
        refine S.p (Pu.fieldAddr (off' := 1) Try.runUnderlying123 rfl Try.sizeOf119 rfl rfl rfl) rfl ?_
        refine S.q (Qt.ld rfl (Cel.var 3 rfl) (o := 0) (off := 1) rfl (Cut.one Try.isAgg119 rfl)) rfl ?_
        refine S.q (Qt.ld rfl (Cel.var 1 rfl) (o := 0) (off := 0) rfl (Cut.agg [.int .i64 e.s, .int .i64 e.id] Try.isAgg129 Try.sizeOf129 rfl rfl)) rfl ?_
        refine S.p (Pu.move rfl) rfl ?_
        refine S.p (Pu.nilCheck rfl) rfl ?_
        refine S.p (Pu.fieldAddr (off' := 0) Try.runUnderlying123 rfl Try.sizeOf55 rfl rfl rfl) rfl ?_
        refine S.q (Qt.ld rfl (Cel.var 3 rfl) (o := 0) (off := 0) rfl (Cut.one Try.isAgg55 rfl)) rfl ?_
        refine S.q (Qt.lenM Try.runUnderlying55 rfl (Src.row 4 rfl)) rfl ?_
        refine S.endO ?_
        refine O.l0 (Lo.mapUpdI 5 (key := [e.s, e.id]) (by exact Try.underlying119) (KT.str (by exact Try.underlying129) Try.stoodInHeld129 (fint129 (by exact Try.underlying129))) rfl rfl rfl rfl rfl rfl) ?_
        rintro _ _ rfl
        refine O.nil ?_
        refine J.seq ?_
        refine J.drawMix [(0, false), (1, false), (2, false), (3, false), (4, false), (5, false), (6, true), (7, true), (8, false), (9, false), (10, true)] [0, 3] [var g7 [.int .i64 e.s, .int .i64 e.id, .int .i64 2, .int .i64 e.a, .int .i64 e.code, .int .i64 e.tick, .int .i64 0, .int .i64 0] 61, var gb [V, .map (some b1), .map (some b2)] 123] Try.mixed (by kernel_rfl) (by decide) rfl ?_
        refine Mx.p rfl (Pu.move rfl) rfl ?_
        refine Mx.p rfl (Pu.move rfl) rfl ?_
        refine Mx.p rfl (Pu.nilCheck rfl) rfl ?_
        refine Mx.p rfl (Pu.fieldAddr (off' := 0) Try.runUnderlying123 rfl Try.sizeOf55 rfl rfl rfl) rfl ?_
        refine Mx.q rfl (Qt.ld rfl (Cel.var 1 rfl) (o := 0) (off := 0) rfl (Cut.one Try.isAgg55 rfl)) rfl ?_
        refine Mx.q rfl (Qt.ld rfl (Cel.var 0 rfl) (o := 0) (off := 0) rfl (Cut.agg [.int .i64 e.s, .int .i64 e.id, .int .i64 2, .int .i64 e.a, .int .i64 e.code, .int .i64 e.tick, .int .i64 0, .int .i64 0] Try.isAgg61 Try.sizeOf61 rfl rfl)) rfl ?_
        refine Mx.l rfl (Lo.buildM (s := 8) Ft.cells [(⟨e.s, e.id, 2, e.a, e.code, e.tick, 0, 0⟩ : Ft)] [(0, .agg #[.int .i64 e.s, .int .i64 e.id, .int .i64 2, .int .i64 e.a, .int .i64 e.code, .int .i64 e.tick, .int .i64 0, .int .i64 0])] (by exact Try.runUnderlying55) (by exact Try.sizeOf61) (by exact Try.zeroValue61) rfl rfl rfl (by kernel_rfl) rfl rfl) rfl ?_
        rintro V14 _ rfl
        refine MxK.go [1, 4] [0, 1] [var g7 [.int .i64 e.s, .int .i64 e.id, .int .i64 2, .int .i64 e.a, .int .i64 e.code, .int .i64 e.tick, .int .i64 0, .int .i64 0] 61, var gb [V, .map (some b1), .map (some b2)] 123] (by decide) rfl (by decide) rfl ?_
        refine Mx.l rfl (Lo.appendM (s := 8) 5 (by exact Try.underlying55) (by exact (info61).1) (by exact (info61).2.1) (by exact (info61).2.2.1) (by exact (info61).2.2.2) rfl rfl rfl rfl rfl (Src.row 0 rfl) Ft.one (by first | omega | exact (Ld.fits_at hfit (by assumption)).1 | exact (Ld.fits_at hfit (by assumption)).2.1 | exact (Ld.fits_at hfit (by assumption)).2.2.1 | (simp only [List.length_append, List.length_cons, List.length_nil, List.length_set]; omega)) (by first | omega | exact (Ld.fits_at hfit (by assumption)).1 | exact (Ld.fits_at hfit (by assumption)).2.1 | exact (Ld.fits_at hfit (by assumption)).2.2.1 | (simp only [List.length_append, List.length_cons, List.length_nil, List.length_set]; omega))) rfl ?_
        rintro V15 _ rfl
        refine MxK.go [1, 4] [0, 1] [var g7 [.int .i64 e.s, .int .i64 e.id, .int .i64 2, .int .i64 e.a, .int .i64 e.code, .int .i64 e.tick, .int .i64 0, .int .i64 0] 61, var gb [V, .map (some b1), .map (some b2)] 123] (by decide) rfl (by decide) rfl ?_
        refine Mx.p rfl (Pu.nilCheck rfl) rfl ?_
        refine Mx.p rfl (Pu.fieldAddr (off' := 0) Try.runUnderlying123 rfl Try.sizeOf55 rfl rfl rfl) rfl ?_
        refine Mx.one rfl (fun _ h => by cases h <;> rfl) (Src.row 5 rfl) (fun hV16 => ?_)
        refine Mx.l0 rfl (Lo.store 4 (vs := [V15]) [V15, .map (some b1), .map (some b2)] rfl rfl rfl (by exact Try.sizeOf55) (one_cells hV16) rfl (one_all hV16) rfl rfl) ?_
        rintro _ _ rfl
        refine MxK.all [1, 4] [var g7 [.int .i64 e.s, .int .i64 e.id, .int .i64 2, .int .i64 e.a, .int .i64 e.code, .int .i64 e.tick, .int .i64 0, .int .i64 0] 61, var gb [V15, .map (some b1), .map (some b2)] 123] (by decide) rfl (by kernel_rfl) ?_
        refine Mx.nil ?_
        refine J.seq ?_
        refine J.region ?_
        refine O.p (Pu.assign rfl) rfl ?_
        refine O.nil ?_
        exact J.ret (Fin.ret (rs := [.tmp 4]) rfl [_] ⟨rfl, trivial⟩ [4, 5, 6] (by decide) [var gb [V15, .map (some b1), .map (some b2)] 123, row V15 61 8 ((out ++ ([(⟨e.s, e.id, 2, e.a, e.code, e.tick, 0, 0⟩ : Ft)])).map Ft.cells), mp b1 encR 2 ((setM pm [e.s, e.id] (out.length : Int)).map fun p => (p.1, Value.int .i64 p.2))] rfl ⟨V15, setM pm [e.s, e.id] (out.length : Int), out ++ ([(⟨e.s, e.id, 2, e.a, e.code, e.tick, 0, 0⟩ : Ft)]), (by rw [(show Ld.cameF out e = some (out ++ [Ld.fresh e]) from (by first | exact Ld.cameF_new hfit (by assumption) | exact Ld.cameF_shut hfit (by assumption) (by assumption) (by assumption)))]; rfl), (by rw [(show Ld.cameF out e = some (out ++ [Ld.fresh e]) from (by first | exact Ld.cameF_new hfit (by assumption) | exact Ld.cameF_shut hfit (by assumption) (by assumption) (by assumption)))]; simp [Ld.fresh, *]), Ld.fits_app' hfit rfl rfl, rfl⟩)
  ·
    refine O.gskip (t := 24) rfl rfl (no_bool (by rw [h3]; decide)) rfl rfl ?_
    refine O.gskip (t := 24) rfl rfl (no_bool (by rw [h3]; decide)) rfl rfl ?_
    refine O.gskip (t := 24) rfl rfl (no_bool (by rw [h3]; decide)) rfl rfl ?_
    refine O.gskip (t := 24) rfl rfl (no_bool (by rw [h3]; decide)) rfl rfl ?_
    refine O.gskip (t := 24) rfl rfl (no_bool (by rw [h3]; decide)) rfl rfl ?_
    refine O.gskip (t := 24) rfl rfl (no_bool (by rw [h3]; decide)) rfl rfl ?_
    refine O.gskip (t := 24) rfl rfl (no_bool (by rw [h3]; decide)) rfl rfl ?_
    refine O.gskip (t := 24) rfl rfl (no_bool (by rw [h3]; decide)) rfl rfl ?_
    refine O.p (Pu.pickF rfl h3 rfl) rfl ?_
    refine O.nil ?_
    refine J.condF rfl rfl ?_
    refine J.skip ?_
    refine J.seq ?_
    refine J.region ?_
    refine O.p (Pu.fieldAddr (off' := 2) Try.runUnderlying93 rfl Try.sizeOf3 rfl rfl rfl) rfl ?_
    refine O.q (Qt.ld rfl (Cel.var 1 rfl) (o := 0) (off := 2) rfl (Cut.one Try.isAgg3 rfl)) rfl ?_
    refine O.p (Pu.fieldAddr (off' := 3) Try.runUnderlying93 rfl Try.sizeOf3 rfl rfl rfl) rfl ?_
    refine O.q (Qt.ld rfl (Cel.var 1 rfl) (o := 0) (off := 3) rfl (Cut.one Try.isAgg3 rfl)) rfl ?_
    refine O.p (Pu.fieldAddr (off' := 5) Try.runUnderlying93 rfl Try.sizeOf3 rfl rfl rfl) rfl ?_
    refine O.q (Qt.ld rfl (Cel.var 1 rfl) (o := 0) (off := 5) rfl (Cut.one Try.isAgg3 rfl)) rfl ?_
    refine O.p (Pu.fieldAddr (off' := 4) Try.runUnderlying93 rfl Try.sizeOf3 rfl rfl rfl) rfl ?_
    refine O.q (Qt.ld rfl (Cel.var 1 rfl) (o := 0) (off := 4) rfl (Cut.one Try.isAgg3 rfl)) rfl ?_
    refine O.p (Pu.fieldAddr (off' := 1) Try.runUnderlying93 rfl Try.sizeOf3 rfl rfl rfl) rfl ?_
    refine O.q (Qt.ld rfl (Cel.var 1 rfl) (o := 0) (off := 1) rfl (Cut.one Try.isAgg3 rfl)) rfl ?_
    refine O.p (Pu.build [(0, .int .i64 e.s), (1, .int .i64 e.id), (2, .int .i64 2), (3, .int .i64 e.a), (4, .int .i64 e.code), (5, .int .i64 e.tick)] [.int .i64 e.s, .int .i64 e.id, .int .i64 2, .int .i64 e.a, .int .i64 e.code, .int .i64 e.tick, .int .i64 0, .int .i64 0] #[(0, 1), (1, 1), (2, 1), (3, 1), (4, 1), (5, 1), (6, 1), (7, 1)] Try.runUnderlying61 Try.zeroValue61 (places61 Try.underlying61) rfl (by kernel_rfl)) rfl ?_
    refine O.l (Lo.alloc [.int .i64 0, .int .i64 0, .int .i64 0, .int .i64 0, .int .i64 0, .int .i64 0, .int .i64 0, .int .i64 0] (by exact Try.zeroValue61) rfl) rfl ?_
    rintro _ _ ⟨g17, rfl, rfl⟩
    refine O.l0 (Lo.store 0 (vs := [.int .i64 e.s, .int .i64 e.id, .int .i64 2, .int .i64 e.a, .int .i64 e.code, .int .i64 e.tick, .int .i64 0, .int .i64 0]) [.int .i64 e.s, .int .i64 e.id, .int .i64 2, .int .i64 e.a, .int .i64 e.code, .int .i64 e.tick, .int .i64 0, .int .i64 0] rfl rfl rfl (by exact Try.sizeOf61) rfl rfl rfl rfl rfl) ?_
    rintro _ _ rfl
    refine O.nil ?_
    refine J.seq ?_
    refine J.seq ?_
    refine J.region ?_
    refine O.p (Pu.fieldAddr (off' := 4) Try.runUnderlying93 rfl Try.sizeOf3 rfl rfl rfl) rfl ?_
    refine O.q (Qt.ld rfl (Cel.var 2 rfl) (o := 0) (off := 4) rfl (Cut.one Try.isAgg3 rfl)) rfl ?_
    refine O.p (Pu.neq rfl rfl) rfl ?_
    refine O.nil ?_
    refine J.cond rfl (fun h18 => ?_) (fun h18 => ?_)
    ·
      have p19 := of_decide_eq_true h18
      refine J.region ?_
      refine O.p (Pu.fieldAddr (off' := 2) Try.runUnderlying61 rfl Try.sizeOf3 rfl rfl rfl) rfl ?_
      refine O.l0 (Lo.store 0 (vs := [.int .i64 1]) [.int .i64 e.s, .int .i64 e.id, .int .i64 1, .int .i64 e.a, .int .i64 e.code, .int .i64 e.tick, .int .i64 0, .int .i64 0] rfl rfl rfl (by exact Try.sizeOf3) rfl rfl rfl rfl rfl) ?_
      rintro _ _ rfl
      refine O.nil ?_
      refine J.seq ?_
      refine J.drawTail 10 Try.mixed (by kernel_rfl) ?_
      refine S.p (Pu.move rfl) rfl ?_
      refine S.p (Pu.nilCheck rfl) rfl ?_
      refine S.p (Pu.fieldAddr (off' := 1) Try.runUnderlying123 rfl Try.sizeOf119 rfl rfl rfl) rfl ?_
      refine S.q (Qt.ld rfl (Cel.var 3 rfl) (o := 0) (off := 1) rfl (Cut.one Try.isAgg119 rfl)) rfl ?_
      refine S.q (Qt.ld rfl (Cel.var 1 rfl) (o := 0) (off := 0) rfl (Cut.agg [.int .i64 e.s, .int .i64 e.id] Try.isAgg129 Try.sizeOf129 rfl rfl)) rfl ?_
      refine S.p (Pu.move rfl) rfl ?_
      refine S.p (Pu.nilCheck rfl) rfl ?_
      refine S.p (Pu.fieldAddr (off' := 0) Try.runUnderlying123 rfl Try.sizeOf55 rfl rfl rfl) rfl ?_
      refine S.q (Qt.ld rfl (Cel.var 3 rfl) (o := 0) (off := 0) rfl (Cut.one Try.isAgg55 rfl)) rfl ?_
      refine S.q (Qt.lenM Try.runUnderlying55 rfl (Src.row 4 rfl)) rfl ?_
      refine S.endO ?_
      refine O.l0 (Lo.mapUpdI 5 (key := [e.s, e.id]) (by exact Try.underlying119) (KT.str (by exact Try.underlying129) Try.stoodInHeld129 (fint129 (by exact Try.underlying129))) rfl rfl rfl rfl rfl rfl) ?_
      rintro _ _ rfl
      refine O.nil ?_
      refine J.seq ?_
      refine J.drawMix [(0, false), (1, false), (2, false), (3, false), (4, false), (5, false), (6, true), (7, true), (8, false), (9, false), (10, true)] [0, 3] [var g17 [.int .i64 e.s, .int .i64 e.id, .int .i64 1, .int .i64 e.a, .int .i64 e.code, .int .i64 e.tick, .int .i64 0, .int .i64 0] 61, var gb [V, .map (some b1), .map (some b2)] 123] Try.mixed (by kernel_rfl) (by decide) rfl ?_
      refine Mx.p rfl (Pu.move rfl) rfl ?_
      refine Mx.p rfl (Pu.move rfl) rfl ?_
      refine Mx.p rfl (Pu.nilCheck rfl) rfl ?_
      refine Mx.p rfl (Pu.fieldAddr (off' := 0) Try.runUnderlying123 rfl Try.sizeOf55 rfl rfl rfl) rfl ?_
      refine Mx.q rfl (Qt.ld rfl (Cel.var 1 rfl) (o := 0) (off := 0) rfl (Cut.one Try.isAgg55 rfl)) rfl ?_
      refine Mx.q rfl (Qt.ld rfl (Cel.var 0 rfl) (o := 0) (off := 0) rfl (Cut.agg [.int .i64 e.s, .int .i64 e.id, .int .i64 1, .int .i64 e.a, .int .i64 e.code, .int .i64 e.tick, .int .i64 0, .int .i64 0] Try.isAgg61 Try.sizeOf61 rfl rfl)) rfl ?_
      refine Mx.l rfl (Lo.buildM (s := 8) Ft.cells [(⟨e.s, e.id, 1, e.a, e.code, e.tick, 0, 0⟩ : Ft)] [(0, .agg #[.int .i64 e.s, .int .i64 e.id, .int .i64 1, .int .i64 e.a, .int .i64 e.code, .int .i64 e.tick, .int .i64 0, .int .i64 0])] (by exact Try.runUnderlying55) (by exact Try.sizeOf61) (by exact Try.zeroValue61) rfl rfl rfl (by kernel_rfl) rfl rfl) rfl ?_
      rintro V20 _ rfl
      refine MxK.go [1, 4] [0, 1] [var g17 [.int .i64 e.s, .int .i64 e.id, .int .i64 1, .int .i64 e.a, .int .i64 e.code, .int .i64 e.tick, .int .i64 0, .int .i64 0] 61, var gb [V, .map (some b1), .map (some b2)] 123] (by decide) rfl (by decide) rfl ?_
      refine Mx.l rfl (Lo.appendM (s := 8) 5 (by exact Try.underlying55) (by exact (info61).1) (by exact (info61).2.1) (by exact (info61).2.2.1) (by exact (info61).2.2.2) rfl rfl rfl rfl rfl (Src.row 0 rfl) Ft.one (by first | omega | exact (Ld.fits_at hfit (by assumption)).1 | exact (Ld.fits_at hfit (by assumption)).2.1 | exact (Ld.fits_at hfit (by assumption)).2.2.1 | (simp only [List.length_append, List.length_cons, List.length_nil, List.length_set]; omega)) (by first | omega | exact (Ld.fits_at hfit (by assumption)).1 | exact (Ld.fits_at hfit (by assumption)).2.1 | exact (Ld.fits_at hfit (by assumption)).2.2.1 | (simp only [List.length_append, List.length_cons, List.length_nil, List.length_set]; omega))) rfl ?_
      rintro V21 _ rfl
      refine MxK.go [1, 4] [0, 1] [var g17 [.int .i64 e.s, .int .i64 e.id, .int .i64 1, .int .i64 e.a, .int .i64 e.code, .int .i64 e.tick, .int .i64 0, .int .i64 0] 61, var gb [V, .map (some b1), .map (some b2)] 123] (by decide) rfl (by decide) rfl ?_
      refine Mx.p rfl (Pu.nilCheck rfl) rfl ?_
      refine Mx.p rfl (Pu.fieldAddr (off' := 0) Try.runUnderlying123 rfl Try.sizeOf55 rfl rfl rfl) rfl ?_
      refine Mx.one rfl (fun _ h => by cases h <;> rfl) (Src.row 5 rfl) (fun hV22 => ?_)
      refine Mx.l0 rfl (Lo.store 4 (vs := [V21]) [V21, .map (some b1), .map (some b2)] rfl rfl rfl (by exact Try.sizeOf55) (one_cells hV22) rfl (one_all hV22) rfl rfl) ?_
      rintro _ _ rfl
      refine MxK.all [1, 4] [var g17 [.int .i64 e.s, .int .i64 e.id, .int .i64 1, .int .i64 e.a, .int .i64 e.code, .int .i64 e.tick, .int .i64 0, .int .i64 0] 61, var gb [V21, .map (some b1), .map (some b2)] 123] (by decide) rfl (by kernel_rfl) ?_
      refine Mx.nil ?_
      refine J.seq ?_
      refine J.region ?_
      refine O.p (Pu.assign rfl) rfl ?_
      refine O.nil ?_
      exact J.ret (Fin.ret (rs := [.tmp 4]) rfl [_] ⟨rfl, trivial⟩ [4, 5, 6] (by decide) [var gb [V21, .map (some b1), .map (some b2)] 123, row V21 61 8 ((out ++ ([(⟨e.s, e.id, 1, e.a, e.code, e.tick, 0, 0⟩ : Ft)])).map Ft.cells), mp b1 encR 2 ((setM pm [e.s, e.id] (out.length : Int)).map fun p => (p.1, Value.int .i64 p.2))] rfl ⟨V21, setM pm [e.s, e.id] (out.length : Int), out ++ ([(⟨e.s, e.id, 1, e.a, e.code, e.tick, 0, 0⟩ : Ft)]), (by rw [(show Ld.cameF out e = some (out ++ [Ld.fresh e]) from (by first | exact Ld.cameF_new hfit (by assumption) | exact Ld.cameF_shut hfit (by assumption) (by assumption) (by assumption)))]; rfl), (by rw [(show Ld.cameF out e = some (out ++ [Ld.fresh e]) from (by first | exact Ld.cameF_new hfit (by assumption) | exact Ld.cameF_shut hfit (by assumption) (by assumption) (by assumption)))]; simp [Ld.fresh, *]), Ld.fits_app' hfit rfl rfl, rfl⟩)
    ·
      have p23 := of_decide_eq_false h18
      refine J.skip ?_
      refine J.seq ?_
      refine J.drawTail 10 Try.mixed (by kernel_rfl) ?_
      refine S.p (Pu.move rfl) rfl ?_
      refine S.p (Pu.nilCheck rfl) rfl ?_
      refine S.p (Pu.fieldAddr (off' := 1) Try.runUnderlying123 rfl Try.sizeOf119 rfl rfl rfl) rfl ?_
      refine S.q (Qt.ld rfl (Cel.var 3 rfl) (o := 0) (off := 1) rfl (Cut.one Try.isAgg119 rfl)) rfl ?_
      refine S.q (Qt.ld rfl (Cel.var 1 rfl) (o := 0) (off := 0) rfl (Cut.agg [.int .i64 e.s, .int .i64 e.id] Try.isAgg129 Try.sizeOf129 rfl rfl)) rfl ?_
      refine S.p (Pu.move rfl) rfl ?_
      refine S.p (Pu.nilCheck rfl) rfl ?_
      refine S.p (Pu.fieldAddr (off' := 0) Try.runUnderlying123 rfl Try.sizeOf55 rfl rfl rfl) rfl ?_
      refine S.q (Qt.ld rfl (Cel.var 3 rfl) (o := 0) (off := 0) rfl (Cut.one Try.isAgg55 rfl)) rfl ?_
      refine S.q (Qt.lenM Try.runUnderlying55 rfl (Src.row 4 rfl)) rfl ?_
      refine S.endO ?_
      refine O.l0 (Lo.mapUpdI 5 (key := [e.s, e.id]) (by exact Try.underlying119) (KT.str (by exact Try.underlying129) Try.stoodInHeld129 (fint129 (by exact Try.underlying129))) rfl rfl rfl rfl rfl rfl) ?_
      rintro _ _ rfl
      refine O.nil ?_
      refine J.seq ?_
      refine J.drawMix [(0, false), (1, false), (2, false), (3, false), (4, false), (5, false), (6, true), (7, true), (8, false), (9, false), (10, true)] [0, 3] [var g17 [.int .i64 e.s, .int .i64 e.id, .int .i64 2, .int .i64 e.a, .int .i64 e.code, .int .i64 e.tick, .int .i64 0, .int .i64 0] 61, var gb [V, .map (some b1), .map (some b2)] 123] Try.mixed (by kernel_rfl) (by decide) rfl ?_
      refine Mx.p rfl (Pu.move rfl) rfl ?_
      refine Mx.p rfl (Pu.move rfl) rfl ?_
      refine Mx.p rfl (Pu.nilCheck rfl) rfl ?_
      refine Mx.p rfl (Pu.fieldAddr (off' := 0) Try.runUnderlying123 rfl Try.sizeOf55 rfl rfl rfl) rfl ?_
      refine Mx.q rfl (Qt.ld rfl (Cel.var 1 rfl) (o := 0) (off := 0) rfl (Cut.one Try.isAgg55 rfl)) rfl ?_
      refine Mx.q rfl (Qt.ld rfl (Cel.var 0 rfl) (o := 0) (off := 0) rfl (Cut.agg [.int .i64 e.s, .int .i64 e.id, .int .i64 2, .int .i64 e.a, .int .i64 e.code, .int .i64 e.tick, .int .i64 0, .int .i64 0] Try.isAgg61 Try.sizeOf61 rfl rfl)) rfl ?_
      refine Mx.l rfl (Lo.buildM (s := 8) Ft.cells [(⟨e.s, e.id, 2, e.a, e.code, e.tick, 0, 0⟩ : Ft)] [(0, .agg #[.int .i64 e.s, .int .i64 e.id, .int .i64 2, .int .i64 e.a, .int .i64 e.code, .int .i64 e.tick, .int .i64 0, .int .i64 0])] (by exact Try.runUnderlying55) (by exact Try.sizeOf61) (by exact Try.zeroValue61) rfl rfl rfl (by kernel_rfl) rfl rfl) rfl ?_
      rintro V24 _ rfl
      refine MxK.go [1, 4] [0, 1] [var g17 [.int .i64 e.s, .int .i64 e.id, .int .i64 2, .int .i64 e.a, .int .i64 e.code, .int .i64 e.tick, .int .i64 0, .int .i64 0] 61, var gb [V, .map (some b1), .map (some b2)] 123] (by decide) rfl (by decide) rfl ?_
      refine Mx.l rfl (Lo.appendM (s := 8) 5 (by exact Try.underlying55) (by exact (info61).1) (by exact (info61).2.1) (by exact (info61).2.2.1) (by exact (info61).2.2.2) rfl rfl rfl rfl rfl (Src.row 0 rfl) Ft.one (by first | omega | exact (Ld.fits_at hfit (by assumption)).1 | exact (Ld.fits_at hfit (by assumption)).2.1 | exact (Ld.fits_at hfit (by assumption)).2.2.1 | (simp only [List.length_append, List.length_cons, List.length_nil, List.length_set]; omega)) (by first | omega | exact (Ld.fits_at hfit (by assumption)).1 | exact (Ld.fits_at hfit (by assumption)).2.1 | exact (Ld.fits_at hfit (by assumption)).2.2.1 | (simp only [List.length_append, List.length_cons, List.length_nil, List.length_set]; omega))) rfl ?_
      rintro V25 _ rfl
      refine MxK.go [1, 4] [0, 1] [var g17 [.int .i64 e.s, .int .i64 e.id, .int .i64 2, .int .i64 e.a, .int .i64 e.code, .int .i64 e.tick, .int .i64 0, .int .i64 0] 61, var gb [V, .map (some b1), .map (some b2)] 123] (by decide) rfl (by decide) rfl ?_
      refine Mx.p rfl (Pu.nilCheck rfl) rfl ?_
      refine Mx.p rfl (Pu.fieldAddr (off' := 0) Try.runUnderlying123 rfl Try.sizeOf55 rfl rfl rfl) rfl ?_
      refine Mx.one rfl (fun _ h => by cases h <;> rfl) (Src.row 5 rfl) (fun hV26 => ?_)
      refine Mx.l0 rfl (Lo.store 4 (vs := [V25]) [V25, .map (some b1), .map (some b2)] rfl rfl rfl (by exact Try.sizeOf55) (one_cells hV26) rfl (one_all hV26) rfl rfl) ?_
      rintro _ _ rfl
      refine MxK.all [1, 4] [var g17 [.int .i64 e.s, .int .i64 e.id, .int .i64 2, .int .i64 e.a, .int .i64 e.code, .int .i64 e.tick, .int .i64 0, .int .i64 0] 61, var gb [V25, .map (some b1), .map (some b2)] 123] (by decide) rfl (by kernel_rfl) ?_
      refine Mx.nil ?_
      refine J.seq ?_
      refine J.region ?_
      refine O.p (Pu.assign rfl) rfl ?_
      refine O.nil ?_
      exact J.ret (Fin.ret (rs := [.tmp 4]) rfl [_] ⟨rfl, trivial⟩ [4, 5, 6] (by decide) [var gb [V25, .map (some b1), .map (some b2)] 123, row V25 61 8 ((out ++ ([(⟨e.s, e.id, 2, e.a, e.code, e.tick, 0, 0⟩ : Ft)])).map Ft.cells), mp b1 encR 2 ((setM pm [e.s, e.id] (out.length : Int)).map fun p => (p.1, Value.int .i64 p.2))] rfl ⟨V25, setM pm [e.s, e.id] (out.length : Int), out ++ ([(⟨e.s, e.id, 2, e.a, e.code, e.tick, 0, 0⟩ : Ft)]), (by rw [(show Ld.cameF out e = some (out ++ [Ld.fresh e]) from (by first | exact Ld.cameF_new hfit (by assumption) | exact Ld.cameF_shut hfit (by assumption) (by assumption) (by assumption)))]; rfl), (by rw [(show Ld.cameF out e = some (out ++ [Ld.fresh e]) from (by first | exact Ld.cameF_new hfit (by assumption) | exact Ld.cameF_shut hfit (by assumption) (by assumption) (by assumption)))]; simp [Ld.fresh, *]), Ld.fits_app' hfit rfl rfl, rfl⟩)

end Go.Proofs.Ytghhjhjpccipaaa
