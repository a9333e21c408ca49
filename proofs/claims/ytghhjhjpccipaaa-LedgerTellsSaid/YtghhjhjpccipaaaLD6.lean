/-
  Walks, printed by a program of mine (lk.py): each function meets its contract.
-/
import Derived.KernelRfl
import Derived.Test.YtghhjhjpccipaaaLD5
namespace Go.Proofs.Ytghhjhjpccipaaa
open Go Go.LK
set_option linter.unusedSimpArgs false

set_option maxRecDepth 100000 in
theorem r41_last (fv : Value) (l : List Ft) (s id : Int) (hl : l.length ≤ 100000) : Tri Try.prog 72 #[fv, .int .i64 s, .int .i64 id] [rd fv 8 (l.map Ft.cells)] [] (fun v L' => v = .int .i64 (Ld.lastZ l s id) ∧ L' = []) := by
  refine Tri.enter (args := [fv, .int .i64 s, .int .i64 id]) (body := _) 32 Try.func72 rfl Try.ntmps72 rfl ?_
  intro w0
  refine J.seq ?_
  refine J.region ?_
  refine O.p (Pu.assign rfl) rfl ?_
  refine O.nil ?_
  refine J.seq ?_
  refine J.seq ?_
  refine J.region ?_
  refine O.p (Pu.move rfl) rfl ?_
  refine O.q (Qt.lenM Try.runUnderlying55 rfl (Src.ro 0 rfl)) rfl ?_
  refine O.p (Pu.sub' rfl rfl (by first | omega | (simp only [List.length_append, List.length_cons, List.length_nil, List.length_set]; omega))) rfl ?_
  refine O.p (Pu.assign rfl) rfl ?_
  refine O.nil ?_
  refine J.block ?_
  refine J.loop (X := Int) (fun ξ => -1 ≤ ξ ∧ ξ < l.length ∧ ∀ (i : Nat) (y : Ft), ξ < i → l[i]? = some y → ¬ (y.s = s ∧ y.id = id)) (fun ξ => [(0, fv), (1, .int .i64 s), (2, .int .i64 id), (7, .int .i64 ξ)]) (fun ξ => []) (fun ξ => (ξ + 1).toNat) ((l.length : Int) - 1) (show -1 ≤ ((l.length : Int) - 1) ∧ ((l.length : Int) - 1) < l.length ∧ ∀ (i : Nat) (y : Ft), ((l.length : Int) - 1) < i → l[i]? = some y → ¬ (y.s = s ∧ y.id = id) from ⟨by omega, by omega, fun i y h1 h2 => absurd (List.getElem?_eq_some_iff.1 h2).1 (by omega)⟩) ⟨rfl, rfl, rfl, rfl, trivial⟩ [] (by decide) rfl ?_
  rintro j hq1
  obtain ⟨hj0, hj1, hno⟩ : -1 ≤ j ∧ j < l.length ∧ ∀ (i : Nat) (y : Ft), j < i → l[i]? = some y → ¬ (y.s = s ∧ y.id = id) := hq1
  show J _ _ [(0, fv), (1, .int .i64 s), (2, .int .i64 id), (7, .int .i64 j)] []
  refine J.seq ?_
  refine J.seq ?_
  refine J.region ?_
  refine O.p (Pu.move rfl) rfl ?_
  refine O.p (Pu.geq rfl rfl) rfl ?_
  refine O.nil ?_
  refine J.cond rfl (fun h2 => ?_) (fun h2 => ?_)
  ·
    have p3 := of_decide_eq_true h2
    refine J.skip ?_
    refine J.seq ?_
    refine J.block ?_
    refine J.seq ?_
    refine J.region ?_
    refine O.p (Pu.move rfl) rfl ?_
    refine O.p (Pu.move rfl) rfl ?_
    obtain ⟨e4, he4⟩ : ∃ x_, l[(j).toNat]? = some x_ := ⟨_, List.getElem?_eq_getElem (by first | omega | (simp only [List.length_append]; omega))⟩
    refine O.q (Qt.idxM Try.runUnderlying55 Try.sizeOf61 rfl (Src.ro 0 rfl) rfl (by first | omega | (simp only [List.length_append]; omega)) (by first | omega | (simp only [List.length_append]; omega))) rfl ?_
    refine O.p (Pu.fieldAddr (off' := voff fv + (j).toNat * 8 + 0) Try.runUnderlying61 rfl Try.sizeOf3 rfl rfl rfl) rfl ?_
    refine O.q (Qt.ld rfl (Cel.eltM (Src.ro 0 rfl) he4) (o := (voff fv + ((j).toNat) * 8)) (off := 0) (by omega) (Cut.one Try.isAgg3 rfl)) rfl ?_
    refine O.p (Pu.move rfl) rfl ?_
    refine O.p (Pu.eql rfl rfl) rfl ?_
    refine O.p (Pu.move rfl) rfl ?_
    refine by_bool (decide (e4.s = s)) (fun h5 => ?_) (fun h5 => ?_)
    ·
      have p6 := of_decide_eq_true h5
      refine O.gq (t := 22) rfl rfl h5 rfl (Pu.qt (Pu.move rfl)) rfl ?_
      refine O.gq (t := 22) rfl rfl h5 rfl (Pu.qt (Pu.move rfl)) rfl ?_
      refine O.gq (t := 22) rfl rfl h5 rfl (Qt.idxM Try.runUnderlying55 Try.sizeOf61 rfl (Src.ro 0 rfl) rfl (by first | omega | (simp only [List.length_append]; omega)) (by first | omega | (simp only [List.length_append]; omega))) rfl ?_
      refine O.gq (t := 22) rfl rfl h5 rfl (Pu.qt (Pu.fieldAddr (off' := voff fv + (j).toNat * 8 + 1) Try.runUnderlying61 rfl Try.sizeOf3 rfl rfl rfl)) rfl ?_
      refine O.gq (t := 22) rfl rfl h5 rfl (Qt.ld rfl (Cel.eltM (Src.ro 0 rfl) he4) (o := (voff fv + ((j).toNat) * 8)) (off := 1) (by omega) (Cut.one Try.isAgg3 rfl)) rfl ?_
      refine O.gq (t := 22) rfl rfl h5 rfl (Pu.qt (Pu.move rfl)) rfl ?_
      refine O.gq (t := 22) rfl rfl h5 rfl (Pu.qt (Pu.eql rfl rfl)) rfl ?_
      refine O.p (Pu.pickT rfl h5 rfl) rfl ?_
      refine O.nil ?_
      refine J.cond rfl (fun h7 => ?_) (fun h7 => ?_)
      ·
        have p8 := of_decide_eq_true h7
        refine J.seq ?_
        refine J.region ?_
        refine O.p (Pu.move rfl) rfl ?_
        refine O.p (Pu.assign rfl) rfl ?_
        refine O.nil ?_
        exact J.ret (Fin.ret (rs := [.tmp 6]) rfl [_] ⟨rfl, trivial⟩ [] (by decide) [] rfl ⟨(by simp only [vOf]; rw [Ld.lastZ_at (by omega) (by assumption) (by simp_all) (by simp_all) hno]), rfl⟩)
      ·
        have p9 := of_decide_eq_false h7
        refine J.skip ?_
        refine J.blk ?_
        refine J.region ?_
        refine O.p (Pu.move rfl) rfl ?_
        refine O.p (Pu.sub' rfl rfl (by first | omega | (simp only [List.length_append, List.length_cons, List.length_nil, List.length_set]; omega))) rfl ?_
        refine O.p (Pu.assign rfl) rfl ?_
        refine O.nil ?_
        exact J.lp (j - 1) (show -1 ≤ (j - 1) ∧ (j - 1) < l.length ∧ ∀ (i : Nat) (y : Ft), (j - 1) < i → l[i]? = some y → ¬ (y.s = s ∧ y.id = id) from ⟨by omega, by omega, Ld.last_prev (by omega) hno (by assumption) (by simp [*])⟩) (show ((j - 1) + 1).toNat < (j + 1).toNat from (by first | omega | (simp only [List.length_append]; omega))) ⟨rfl, rfl, rfl, rfl, trivial⟩ [] (by decide) rfl
    ·
      have p10 := of_decide_eq_false h5
      refine O.gskip (t := 22) rfl rfl (no_bool (by rw [h5]; decide)) rfl rfl ?_
      refine O.gskip (t := 22) rfl rfl (no_bool (by rw [h5]; decide)) rfl rfl ?_
      refine O.gskip (t := 22) rfl rfl (no_bool (by rw [h5]; decide)) rfl rfl ?_
      refine O.gskip (t := 22) rfl rfl (no_bool (by rw [h5]; decide)) rfl rfl ?_
      refine O.gskip (t := 22) rfl rfl (no_bool (by rw [h5]; decide)) rfl rfl ?_
      refine O.gskip (t := 22) rfl rfl (no_bool (by rw [h5]; decide)) rfl rfl ?_
      refine O.gskip (t := 22) rfl rfl (no_bool (by rw [h5]; decide)) rfl rfl ?_
      refine O.p (Pu.pickF rfl h5 rfl) rfl ?_
      refine O.nil ?_
      refine J.condF rfl rfl ?_
      refine J.skip ?_
      refine J.blk ?_
      refine J.region ?_
      refine O.p (Pu.move rfl) rfl ?_
      refine O.p (Pu.sub' rfl rfl (by first | omega | (simp only [List.length_append, List.length_cons, List.length_nil, List.length_set]; omega))) rfl ?_
      refine O.p (Pu.assign rfl) rfl ?_
      refine O.nil ?_
      exact J.lp (j - 1) (show -1 ≤ (j - 1) ∧ (j - 1) < l.length ∧ ∀ (i : Nat) (y : Ft), (j - 1) < i → l[i]? = some y → ¬ (y.s = s ∧ y.id = id) from ⟨by omega, by omega, Ld.last_prev (by omega) hno (by assumption) (by simp [*])⟩) (show ((j - 1) + 1).toNat < (j + 1).toNat from (by first | omega | (simp only [List.length_append]; omega))) ⟨rfl, rfl, rfl, rfl, trivial⟩ [] (by decide) rfl
  ·
    have p11 := of_decide_eq_false h2
    refine J.exit _ rfl ?_
    refine J.seq ?_
    refine J.region ?_
    refine O.p (Pu.assign rfl) rfl ?_
    refine O.nil ?_
    exact J.ret (Fin.ret (rs := [.tmp 6]) rfl [_] ⟨rfl, trivial⟩ [] (by decide) [] rfl ⟨(by simp only [vOf]; rw [Ld.lastZ_none (fun i y h => hno i y (by omega) h)]), rfl⟩)

end Go.Proofs.Ytghhjhjpccipaaa
