/-
  Walks, printed by a program of mine (lk.py): each function meets its contract.
-/
import Derived.KernelRfl
import Derived.Test.YtghhjhjpccipaaaLD11
namespace Go.Proofs.Ytghhjhjpccipaaa
open Go Go.LK
set_option linter.unusedSimpArgs false

set_option maxRecDepth 100000 in
theorem sl_equal_ne (av bv : Value) (l m : List Ft) (hl : l.length ≤ 100000) (hm : m.length ≤ 100000) (hne : l.length ≠ m.length) : Tri Try.prog 75 #[av, bv] [rd av 8 (l.map Ft.cells), rd bv 8 (m.map Ft.cells)] [] (fun v L' => v = .bool false ∧ L' = []) := by
  refine Tri.enter (args := [av, bv]) (body := _) 26 Try.func75 rfl Try.ntmps75 rfl ?_
  intro w0
  refine J.seq ?_
  refine J.region ?_
  refine O.p (Pu.assign rfl) rfl ?_
  refine O.nil ?_
  refine J.seq ?_
  refine J.seq ?_
  refine J.region ?_
  refine O.p (Pu.move rfl) rfl ?_
  refine O.q (Qt.lenM Try.runUnderlying55 rfl (Src.ro 0 rfl)) rfl ?_
  refine O.p (Pu.move rfl) rfl ?_
  refine O.q (Qt.lenM Try.runUnderlying55 rfl (Src.ro 1 rfl)) rfl ?_
  refine O.p (Pu.neq rfl rfl) rfl ?_
  refine O.nil ?_
  refine J.cond rfl (fun h1 => ?_) (fun h1 => ?_)
  ·
    have p2 := of_decide_eq_true h1
    refine J.seq ?_
    refine J.region ?_
    refine O.p (Pu.assign rfl) rfl ?_
    refine O.nil ?_
    exact J.ret (Fin.ret (rs := [.tmp 4]) rfl [_] ⟨rfl, trivial⟩ [] (by decide) [] rfl ⟨rfl, rfl⟩)
  ·
    have p3 := of_decide_eq_false h1
    exfalso; omega

set_option maxRecDepth 100000 in
theorem ld_Same_ne (av bv : Value) (l m : List Ft) (hl : l.length ≤ 100000) (hm : m.length ≤ 100000) (hne : l.length ≠ m.length) : Tri Try.prog 38 #[av, bv] [rd av 8 (l.map Ft.cells), rd bv 8 (m.map Ft.cells)] [] (fun v L' => v = .bool false ∧ L' = []) := by
  refine Tri.enter (args := [av, bv]) (body := _) 8 Try.func38 rfl Try.ntmps38 rfl ?_
  intro w0
  refine J.seq ?_
  refine J.region ?_
  refine O.p (Pu.assign rfl) rfl ?_
  refine O.nil ?_
  refine J.seq ?_
  refine J.region ?_
  refine O.p (Pu.move rfl) rfl ?_
  refine O.p (Pu.move rfl) rfl ?_
  refine O.l (Lo.call [av, bv] (by exact Try.call75) rfl (sl_equal_ne av bv l m (by omega) (by omega) (by omega)) [] [] (by decide) rfl _ rfl (RoOk.ro 0 rfl [] rfl (RoOk.ro 1 rfl [] rfl RoOk.nil))) rfl ?_
  rintro _ _ ⟨_, ⟨rfl, rfl⟩, rfl⟩
  refine O.p (Pu.assign rfl) rfl ?_
  refine O.nil ?_
  exact J.ret (Fin.ret (rs := [.tmp 4]) rfl [_] ⟨rfl, trivial⟩ [] (by decide) [] rfl ⟨rfl, rfl⟩)

theorem ld_Read_eq (lv : Value) (l : List Ev) (hl : l.length ≤ 80000) (a : List Ft) (n c : Int) (h : Ld.read l = (a, n, c)) : Tri Try.prog 28 #[lv] [rd lv 7 (l.map Ev.cells)] [] (fun v L' => ∃ V', v = .tuple #[V', .int .i64 n, .int .i64 c] ∧ L' = [row V' 61 8 (a.map Ft.cells)]) := by
  have := ld_Read lv l hl
  rw [h] at this
  exact this

set_option maxRecDepth 100000 in
theorem law41_awake  : Tri Try.prog 27 #[] [] [] (fun v L' => v = .bool true ∧ L' = []) := by
  refine Tri.enter (args := []) (body := _) 57 Try.func27 rfl Try.ntmps27 rfl ?_
  intro w0
  refine J.seq ?_
  refine J.region ?_
  refine O.p (Pu.assign rfl) rfl ?_
  refine O.nil ?_
  refine J.seq ?_
  refine J.region ?_
  refine O.p (Pu.build [(0, .int .i64 1), (1, .int .i64 2), (3, .int .i64 5), (5, .int .i64 3)] [.int .i64 1, .int .i64 2, .int .i64 0, .int .i64 5, .int .i64 0, .int .i64 3, .int .i64 0] #[(0, 1), (1, 1), (2, 1), (3, 1), (4, 1), (5, 1), (6, 1)] Try.runUnderlying93 Try.zeroValue93 (places93 Try.underlying93) rfl (by kernel_rfl)) rfl ?_
  refine O.p (Pu.build [(0, .int .i64 3), (1, .int .i64 4), (3, .int .i64 5)] [.int .i64 3, .int .i64 4, .int .i64 0, .int .i64 5, .int .i64 0, .int .i64 0, .int .i64 0] #[(0, 1), (1, 1), (2, 1), (3, 1), (4, 1), (5, 1), (6, 1)] Try.runUnderlying93 Try.zeroValue93 (places93 Try.underlying93) rfl (by kernel_rfl)) rfl ?_
  refine O.p (Pu.build [(0, .int .i64 4), (1, .int .i64 6), (3, .int .i64 5), (4, .int .i64 1)] [.int .i64 4, .int .i64 6, .int .i64 0, .int .i64 5, .int .i64 1, .int .i64 0, .int .i64 0] #[(0, 1), (1, 1), (2, 1), (3, 1), (4, 1), (5, 1), (6, 1)] Try.runUnderlying93 Try.zeroValue93 (places93 Try.underlying93) rfl (by kernel_rfl)) rfl ?_
  refine O.l (Lo.buildM (s := 7) Ev.cells [(⟨1, 2, 0, 5, 0, 3, 0⟩ : Ev), (⟨3, 4, 0, 5, 0, 0, 0⟩ : Ev), (⟨4, 6, 0, 5, 1, 0, 0⟩ : Ev)] [(0, .agg #[.int .i64 1, .int .i64 2, .int .i64 0, .int .i64 5, .int .i64 0, .int .i64 3, .int .i64 0]), (1, .agg #[.int .i64 3, .int .i64 4, .int .i64 0, .int .i64 5, .int .i64 0, .int .i64 0, .int .i64 0]), (2, .agg #[.int .i64 4, .int .i64 6, .int .i64 0, .int .i64 5, .int .i64 1, .int .i64 0, .int .i64 0])] (by exact Try.runUnderlying22) (by exact Try.sizeOf93) (by exact Try.zeroValue93) rfl rfl rfl (by kernel_rfl) rfl rfl) rfl ?_
  rintro V1 _ rfl
  refine O.l (Lo.call [V1] (by exact Try.call28) rfl (ld_Read_eq V1 [(⟨1, 2, 0, 5, 0, 3, 0⟩ : Ev), (⟨3, 4, 0, 5, 0, 0, 0⟩ : Ev), (⟨4, 6, 0, 5, 1, 0, 0⟩ : Ev)] (by decide) [⟨0, 5, 4, 3, 1, 2, 4, 6⟩] 0 0 (by rfl)) [] [0] (by decide) rfl _ rfl (RoOk.of 0 rfl row_rd [] (by decide) rfl RoOk.nil)) rfl ?_
  rintro _ _ ⟨_, ⟨V2, rfl, rfl⟩, rfl⟩
  refine O.p (Pu.move rfl) rfl ?_
  refine O.p (Pu.extract rfl rfl) rfl ?_
  refine O.p (Pu.extract rfl rfl) rfl ?_
  refine O.p (Pu.extract rfl rfl) rfl ?_
  refine O.p (Pu.assign rfl) rfl ?_
  refine O.p (Pu.assign rfl) rfl ?_
  refine O.p (Pu.assign rfl) rfl ?_
  refine O.nil ?_
  refine J.seq ?_
  refine J.region ?_
  refine O.p (Pu.build [(0, .int .i64 2)] [.int .i64 2, .int .i64 0, .int .i64 0, .int .i64 0, .int .i64 0, .int .i64 0, .int .i64 0] #[(0, 1), (1, 1), (2, 1), (3, 1), (4, 1), (5, 1), (6, 1)] Try.runUnderlying93 Try.zeroValue93 (places93 Try.underlying93) rfl (by kernel_rfl)) rfl ?_
  refine O.p (Pu.build [(0, .int .i64 4), (3, .int .i64 5)] [.int .i64 4, .int .i64 0, .int .i64 0, .int .i64 5, .int .i64 0, .int .i64 0, .int .i64 0] #[(0, 1), (1, 1), (2, 1), (3, 1), (4, 1), (5, 1), (6, 1)] Try.runUnderlying93 Try.zeroValue93 (places93 Try.underlying93) rfl (by kernel_rfl)) rfl ?_
  refine O.l (Lo.buildM (s := 7) Ev.cells [(⟨2, 0, 0, 0, 0, 0, 0⟩ : Ev), (⟨4, 0, 0, 5, 0, 0, 0⟩ : Ev)] [(0, .agg #[.int .i64 2, .int .i64 0, .int .i64 0, .int .i64 0, .int .i64 0, .int .i64 0, .int .i64 0]), (1, .agg #[.int .i64 4, .int .i64 0, .int .i64 0, .int .i64 5, .int .i64 0, .int .i64 0, .int .i64 0])] (by exact Try.runUnderlying22) (by exact Try.sizeOf93) (by exact Try.zeroValue93) rfl rfl rfl (by kernel_rfl) rfl rfl) rfl ?_
  rintro V4 _ rfl
  refine O.l (Lo.call [V4] (by exact Try.call28) rfl (ld_Read_eq V4 [(⟨2, 0, 0, 0, 0, 0, 0⟩ : Ev), (⟨4, 0, 0, 5, 0, 0, 0⟩ : Ev)] (by decide) ([] : List Ft) 1 12 (by rfl)) [] [0, 1, 2] (by decide) rfl _ rfl (RoOk.of 0 rfl row_rd [] (by decide) rfl RoOk.nil)) rfl ?_
  rintro _ _ ⟨_, ⟨V5, rfl, rfl⟩, rfl⟩
  refine O.p (Pu.move rfl) rfl ?_
  refine O.p (Pu.extract rfl rfl) rfl ?_
  refine O.p (Pu.extract rfl rfl) rfl ?_
  refine O.p (Pu.extract rfl rfl) rfl ?_
  refine O.p (Pu.assign rfl) rfl ?_
  refine O.p (Pu.assign rfl) rfl ?_
  refine O.p (Pu.assign rfl) rfl ?_
  refine O.nil ?_
  refine J.seq ?_
  refine J.region ?_
  refine O.p (Pu.move rfl) rfl ?_
  refine O.p (Pu.build [(1, .int .i64 5), (2, .int .i64 4), (3, .int .i64 3), (4, .int .i64 1), (5, .int .i64 2), (6, .int .i64 4), (7, .int .i64 6)] [.int .i64 0, .int .i64 5, .int .i64 4, .int .i64 3, .int .i64 1, .int .i64 2, .int .i64 4, .int .i64 6] #[(0, 1), (1, 1), (2, 1), (3, 1), (4, 1), (5, 1), (6, 1), (7, 1)] Try.runUnderlying61 Try.zeroValue61 (places61 Try.underlying61) rfl (by kernel_rfl)) rfl ?_
  refine O.l (Lo.buildM (s := 8) Ft.cells [(⟨0, 5, 4, 3, 1, 2, 4, 6⟩ : Ft)] [(0, .agg #[.int .i64 0, .int .i64 5, .int .i64 4, .int .i64 3, .int .i64 1, .int .i64 2, .int .i64 4, .int .i64 6])] (by exact Try.runUnderlying55) (by exact Try.sizeOf61) (by exact Try.zeroValue61) rfl rfl rfl (by kernel_rfl) rfl rfl) rfl ?_
  rintro V7 _ rfl
  refine O.l (Lo.call [V2, V7] (by exact Try.call32) rfl (r41_Same V2 V7 ([⟨0, 5, 4, 3, 1, 2, 4, 6⟩]) (by first | decide | omega | (have hrl := Ld.read_len l; omega) | (have hrl := Ld.read_len l; have hol := Ld.opened_len (Ld.read l).1; omega) | (have hol := Ld.opened_len l; omega) | (rw [Ld.tally_len]; omega))) [] [0, 1, 2, 3, 4] (by decide) rfl _ rfl (RoOk.of 3 rfl row_rd [] (by decide) rfl (RoOk.of 0 rfl row_rd [] (by decide) rfl RoOk.nil))) rfl ?_
  rintro _ _ ⟨_, ⟨rfl, rfl⟩, rfl⟩
  refine O.p (Pu.move rfl) rfl ?_
  refine O.gq (t := 28) rfl rfl rfl rfl (Pu.qt (Pu.move rfl)) rfl ?_
  refine O.gq (t := 28) rfl rfl rfl rfl (Pu.qt (Pu.eql rfl rfl)) rfl ?_
  refine O.p (Pu.pickT rfl rfl rfl) rfl ?_
  refine O.p (Pu.move rfl) rfl ?_
  refine O.gq (t := 32) rfl rfl rfl rfl (Pu.qt (Pu.move rfl)) rfl ?_
  refine O.gq (t := 32) rfl rfl rfl rfl (Pu.qt (Pu.eql rfl rfl)) rfl ?_
  refine O.p (Pu.pickT rfl rfl rfl) rfl ?_
  refine O.p (Pu.move rfl) rfl ?_
  refine O.gq (t := 36) rfl rfl rfl rfl (Pu.qt (Pu.move rfl)) rfl ?_
  refine O.gq (t := 36) rfl rfl rfl rfl (Pu.qt (Pu.eql rfl rfl)) rfl ?_
  refine O.p (Pu.pickT rfl rfl rfl) rfl ?_
  refine O.p (Pu.move rfl) rfl ?_
  refine O.gq (t := 40) rfl rfl rfl rfl (Pu.qt (Pu.move rfl)) rfl ?_
  refine O.gq (t := 40) rfl rfl rfl rfl (Pu.qt (Pu.eql rfl rfl)) rfl ?_
  refine O.p (Pu.pickT rfl rfl rfl) rfl ?_
  refine O.p (Pu.move rfl) rfl ?_
  refine O.gq (t := 44) rfl rfl rfl rfl (Pu.qt (Pu.move rfl)) rfl ?_
  refine O.gl (t := 44) rfl rfl rfl rfl (Lo.call [V2] (by exact Try.call36) rfl (ld_Tally V2 ([⟨0, 5, 4, 3, 1, 2, 4, 6⟩]) (by first | decide | omega | (have hrl := Ld.read_len l; omega) | (have hrl := Ld.read_len l; have hol := Ld.opened_len (Ld.read l).1; omega) | (have hol := Ld.opened_len l; omega) | (rw [Ld.tally_len]; omega))) [] [0, 1, 2, 3, 4] (by decide) rfl _ rfl (RoOk.of 3 rfl row_rd [] (by decide) rfl RoOk.nil)) rfl ?_
  rintro v9 _ ⟨_, rfl, rfl⟩
  refine O.gq (t := 44) rfl rfl rfl rfl (Qt.lenM Try.runUnderlying69 rfl (Src.row 0 rfl)) rfl ?_
  refine O.gq (t := 44) rfl rfl rfl rfl (Pu.qt (Pu.eql rfl rfl)) rfl ?_
  refine O.p (Pu.pickT rfl rfl rfl) rfl ?_
  refine O.p (Pu.move rfl) rfl ?_
  refine O.gq (t := 50) rfl rfl (by decide) rfl (Pu.qt (Pu.move rfl)) rfl ?_
  refine O.gl (t := 50) rfl rfl (by decide) rfl (Lo.call [V2] (by exact Try.call36) rfl (ld_Tally V2 ([⟨0, 5, 4, 3, 1, 2, 4, 6⟩]) (by first | decide | omega | (have hrl := Ld.read_len l; omega) | (have hrl := Ld.read_len l; have hol := Ld.opened_len (Ld.read l).1; omega) | (have hol := Ld.opened_len l; omega) | (rw [Ld.tally_len]; omega))) [] [0, 1, 2, 3, 4, 5] (by decide) rfl _ rfl (RoOk.of 4 rfl row_rd [] (by decide) rfl RoOk.nil)) rfl ?_
  rintro v10 _ ⟨_, rfl, rfl⟩
  obtain ⟨e11, he11⟩ : ∃ x_, (Ld.tally ([⟨0, 5, 4, 3, 1, 2, 4, 6⟩]))[1]? = some x_ := ⟨_, List.getElem?_eq_getElem (by decide)⟩
  refine O.gq (t := 50) rfl rfl (by decide) rfl (Qt.idxM Try.runUnderlying69 Try.sizeOf3 rfl (Src.row 0 rfl) rfl (by decide) (by decide)) rfl ?_
  refine O.gq (t := 50) rfl rfl (by decide) rfl (Qt.ld rfl (Cel.eltM (Src.row 0 rfl) he11) (o := (voff v10 + 1 * 1)) (off := 0) (by omega) (Cut.one Try.isAgg3 rfl)) rfl ?_
  refine O.gq (t := 50) rfl rfl (by decide) rfl (Pu.qt (Pu.eql rfl rfl)) rfl ?_
  refine O.p (Pu.pickT rfl (by decide) rfl) rfl ?_
  refine O.p (Pu.assign rfl) rfl ?_
  refine O.nil ?_
  exact J.ret (Fin.ret (rs := [.tmp 0]) rfl [_] ⟨rfl, trivial⟩ [] (by decide) [] rfl ⟨(by first | rfl | (simp only [vOf]; congr 1; exact decide_eq_true (Option.some.inj ((by assumption : _ = some _).symm.trans (by decide))))), rfl⟩)

end Go.Proofs.Ytghhjhjpccipaaa
