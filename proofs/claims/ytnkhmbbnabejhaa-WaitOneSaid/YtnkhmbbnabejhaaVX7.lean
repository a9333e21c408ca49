/-
  Walks, printed by a program of mine (lk.py): each function meets its contract.
-/
import Derived.KernelRfl
import Derived.Test.YtnkhmbbnabejhaaVX4
namespace Go.Proofs.Ytnkhmbbnabejhaa
open Go Go.LK
set_option linter.unusedSimpArgs false

set_option maxRecDepth 100000 in
set_option maxHeartbeats 2000000 in
theorem law34_waitOne (lv : Value) (l : List Ac) (other : Int) : Tri Try.prog 4 #[lv, .int .i64 other] [rd lv 3 (l.map Ac.cells)] [] (fun v L' => v = .bool true ∧ L' = []) := by
  refine Tri.enter (args := [lv, .int .i64 other]) (body := _) 148 Try.func4 rfl Try.ntmps4 rfl ?_
  intro w0
  refine J.seq ?_
  refine J.region ?_
  refine O.p (Pu.assign rfl) rfl ?_
  refine O.nil ?_
  refine J.seq ?_
  refine J.seq ?_
  refine J.region ?_
  refine O.p (Pu.move rfl) rfl ?_
  refine O.q (Qt.lenM Try.runUnderlying40 rfl (Src.ro 0 rfl)) rfl ?_
  refine O.p (Pu.gtr rfl rfl) rfl ?_
  refine O.nil ?_
  refine J.cond rfl (fun h1 => ?_) (fun h1 => ?_)
  ·
    have p2 := of_decide_eq_true h1
    refine J.seq ?_
    refine J.region ?_
    refine O.l (Lo.call [] (by exact Try.call16) rfl law34_awake [] [] (by decide) rfl [] rfl RoOk.nil) rfl ?_
    rintro _ _ ⟨_, ⟨rfl, rfl⟩, rfl⟩
    refine O.p (Pu.assign rfl) rfl ?_
    refine O.nil ?_
    exact J.ret (Fin.ret (rs := [.tmp 4]) rfl [_] ⟨rfl, trivial⟩ [] (by decide) [] rfl ⟨rfl, rfl⟩)
  ·
    have p4 := of_decide_eq_false h1
    refine J.skip ?_
    refine J.seq ?_
    refine J.region ?_
    refine O.l (Lo.call [] (by exact Try.call17) rfl wt_New [] [] (by decide) rfl [] rfl RoOk.nil) rfl ?_
    rintro _ _ ⟨_, ⟨p5, s6, rfl, rfl, hR7⟩, rfl⟩
    refine O.p (Pu.assign rfl) rfl ?_
    refine O.nil ?_
    refine J.seq ?_
    refine J.seq ?_
    refine J.region ?_
    refine O.p (Pu.assign rfl) rfl ?_
    refine O.nil ?_
    refine J.block ?_
    refine J.loop (X := Nat × Ws × List Pr) (fun ξ => ξ.1 ≤ l.length ∧ Wt.Rep ξ.2.2 ξ.2.1 ∧ ξ.2.2.length ≤ ξ.1) (fun ξ => [(0, lv), (1, .int .i64 other), (5, .pointer (some ⟨p5, 0, none⟩)), (6, .int .i64 (ξ.1 : Int))]) (fun ξ => [wt 62 p5 ξ.2.1]) (fun ξ => l.length - ξ.1) ⟨0, s6, []⟩ (show 0 ≤ l.length ∧ Wt.Rep ([]) s6 ∧ ([]).length ≤ 0 from ⟨by omega, (by assumption), by simp⟩) ⟨rfl, rfl, rfl, (congrArg (fun z => some (Value.int .i64 z)) (by first | rfl | omega : (0 : Int) = (0 : Int))), trivial⟩ [0] (by decide) rfl ?_
    rintro ⟨i, s, x⟩ hq9
    obtain ⟨hi, hR, hx⟩ : i ≤ l.length ∧ Wt.Rep x s ∧ x.length ≤ i := hq9
    show J _ _ [(0, lv), (1, .int .i64 other), (5, .pointer (some ⟨p5, 0, none⟩)), (6, .int .i64 (i : Int))] [wt 62 p5 s]
    refine J.seq ?_
    refine J.seq ?_
    refine J.region ?_
    refine O.p (Pu.move rfl) rfl ?_
    refine O.p (Pu.move rfl) rfl ?_
    refine O.q (Qt.lenM Try.runUnderlying40 rfl (Src.ro 0 rfl)) rfl ?_
    refine O.p (Pu.lss rfl rfl) rfl ?_
    refine O.nil ?_
    refine J.cond rfl (fun h10 => ?_) (fun h10 => ?_)
    ·
      have p11 := of_decide_eq_true h10
      refine J.skip ?_
      refine J.seq ?_
      refine J.block ?_
      refine J.seq ?_
      refine J.region ?_
      refine O.p (Pu.move rfl) rfl ?_
      refine O.p (Pu.move rfl) rfl ?_
      obtain ⟨e12, he12⟩ : ∃ x_, l[i]? = some x_ := ⟨_, List.getElem?_eq_getElem (by omega)⟩
      refine O.q (Qt.idxM Try.runUnderlying40 Try.sizeOf44 rfl (Src.ro 0 rfl) rfl (by omega) (by omega)) rfl ?_
      refine O.q (Qt.ld rfl (Cel.eltM (Src.ro 0 rfl) he12) (o := (voff lv + i * 3)) (off := 0) (by omega) (Cut.agg [.int .i64 e12.kind, .int .i64 e12.call, .int .i64 e12.job] Try.isAgg44 Try.sizeOf44 rfl rfl)) rfl ?_
      refine O.l (Lo.alloc [.int .i64 0, .int .i64 0, .int .i64 0] (by exact Try.zeroValue44) rfl) rfl ?_
      rintro _ _ ⟨g13, rfl, rfl⟩
      refine O.l0 (Lo.store 0 (vs := [.int .i64 e12.kind, .int .i64 e12.call, .int .i64 e12.job]) [.int .i64 e12.kind, .int .i64 e12.call, .int .i64 e12.job] rfl rfl rfl (by exact Try.sizeOf44) rfl rfl rfl rfl rfl) ?_
      rintro _ _ rfl
      refine O.nil ?_
      refine J.seq ?_
      refine J.region ?_
      refine O.p (Pu.move rfl) rfl ?_
      refine O.p (Pu.move rfl) rfl ?_
      refine O.l (Lo.call [.pointer (some ⟨p5, 0, none⟩), .int .i64 other] (by exact Try.call18) rfl (wt_Of p5 s x hR other (by first | omega | (refine Nat.le_trans Wt.ofJ_len ?_; omega))) [] [0, 1] (by decide) rfl [var g13 [.int .i64 e12.kind, .int .i64 e12.call, .int .i64 e12.job] 44, wt 62 p5 s] rfl (RoOk.of 1 rfl same_rd [] (by decide) rfl RoOk.nil)) rfl ?_
      rintro v14 _ ⟨_, rfl, rfl⟩
      refine O.p (Pu.assign rfl) rfl ?_
      refine O.nil ?_
      refine J.seq ?_
      refine by_bool ((Wt.jobOf x e12.call).isSome) (fun h15 => ?_) (fun h15 => ?_)
      ·
        refine J.region ?_
        refine O.p (Pu.move rfl) rfl ?_
        refine O.p (Pu.fieldAddr (off' := 1) Try.runUnderlying44 rfl Try.sizeOf3 rfl rfl rfl) rfl ?_
        refine O.q (Qt.ld rfl (Cel.var 1 rfl) (o := 0) (off := 1) rfl (Cut.one Try.isAgg3 rfl)) rfl ?_
        refine O.l (Lo.call [.pointer (some ⟨p5, 0, none⟩), .int .i64 e12.call] (by exact Try.call19) rfl (wt_JobIs p5 s x hR e12.call h15) [] [0, 1, 2] (by decide) rfl [row v14 3 1 ((Wt.ofJ x other).map encZ), var g13 [.int .i64 e12.kind, .int .i64 e12.call, .int .i64 e12.job] 44, wt 62 p5 s] rfl (RoOk.of 2 rfl same_rd [] (by decide) rfl RoOk.nil)) rfl ?_
        rintro _ _ ⟨_, ⟨rfl, rfl⟩, rfl⟩
        refine O.p (Pu.move rfl) rfl ?_
        refine O.p (Pu.extract rfl rfl) rfl ?_
        refine O.p (Pu.extract rfl rfl) rfl ?_
        refine O.p (Pu.assign rfl) rfl ?_
        refine O.p (Pu.assign rfl) rfl ?_
        refine O.nil ?_
        refine J.seq ?_
        refine J.seq ?_
        refine J.region ?_
        refine O.p (Pu.fieldAddr (off' := 0) Try.runUnderlying44 rfl Try.sizeOf3 rfl rfl rfl) rfl ?_
        refine O.q (Qt.ld rfl (Cel.var 1 rfl) (o := 0) (off := 0) rfl (Cut.one Try.isAgg3 rfl)) rfl ?_
        refine O.nil ?_
        refine J.cutK (X := Ws × List Pr) (fun ξ => Wt.Rep ξ.2 ξ.1 ∧ ξ.2.length ≤ i + 1 ∧ (¬(e12.kind = 0 ∧ e12.job = other) → ¬(e12.kind = 1 ∧ Wt.jobOf x e12.call = some other) → ¬(e12.kind = 2 ∧ e12.job = other) → Wt.ofJ ξ.2 other = Wt.ofJ x other)) (fun ξ => [(0, lv), (1, .int .i64 other), (5, .pointer (some ⟨p5, 0, none⟩)), (6, .int .i64 (i : Int)), (7, .pointer (some ⟨g13, 0, none⟩)), (8, v14), (9, .int .i64 ((Wt.jobOf x e12.call).getD 0)), (10, .bool true)]) (fun ξ => [wt 62 p5 ξ.1, row v14 3 1 ((Wt.ofJ x other).map encZ), var g13 [.int .i64 e12.kind, .int .i64 e12.call, .int .i64 e12.job] 44]) ?_ ?_
        ·
          rintro ⟨s2, y⟩ hq17
          obtain ⟨hR2, hy2, hsame⟩ : Wt.Rep y s2 ∧ y.length ≤ i + 1 ∧ (¬(e12.kind = 0 ∧ e12.job = other) → ¬(e12.kind = 1 ∧ Wt.jobOf x e12.call = some other) → ¬(e12.kind = 2 ∧ e12.job = other) → Wt.ofJ y other = Wt.ofJ x other) := hq17
          show J _ _ [(0, lv), (1, .int .i64 other), (5, .pointer (some ⟨p5, 0, none⟩)), (6, .int .i64 (i : Int)), (7, .pointer (some ⟨g13, 0, none⟩)), (8, v14), (9, .int .i64 ((Wt.jobOf x e12.call).getD 0)), (10, .bool true)] [wt 62 p5 s2, row v14 3 1 ((Wt.ofJ x other).map encZ), var g13 [.int .i64 e12.kind, .int .i64 e12.call, .int .i64 e12.job] 44]
          refine J.seq ?_
          refine J.region ?_
          refine O.p (Pu.move rfl) rfl ?_
          refine O.p (Pu.move rfl) rfl ?_
          refine O.l (Lo.call [.pointer (some ⟨p5, 0, none⟩), .int .i64 other] (by exact Try.call18) rfl (wt_Of p5 s2 y hR2 other (by first | omega | (refine Nat.le_trans Wt.ofJ_len ?_; omega))) [] [0, 1, 2] (by decide) rfl [wt 62 p5 s2, row v14 3 1 ((Wt.ofJ x other).map encZ), var g13 [.int .i64 e12.kind, .int .i64 e12.call, .int .i64 e12.job] 44] rfl (RoOk.of 0 rfl same_rd [] (by decide) rfl RoOk.nil)) rfl ?_
          rintro v18 _ ⟨_, rfl, rfl⟩
          refine O.p (Pu.assign rfl) rfl ?_
          refine O.nil ?_
          refine J.seq ?_
          refine J.cutK (X := Bool) (fun ξ => (ξ = false → Wt.ofJ y other = Wt.ofJ x other)) (fun ξ => [(0, lv), (1, .int .i64 other), (5, .pointer (some ⟨p5, 0, none⟩)), (6, .int .i64 (i : Int)), (8, v14), (11, v18), (12, .bool ξ)]) (fun ξ => [row v18 3 1 ((Wt.ofJ y other).map encZ), wt 62 p5 s2, row v14 3 1 ((Wt.ofJ x other).map encZ), var g13 [.int .i64 e12.kind, .int .i64 e12.call, .int .i64 e12.job] 44]) ?_ ?_
          ·
            rintro tb hq19
            have hsam : (tb = false → Wt.ofJ y other = Wt.ofJ x other) := hq19
            show J _ _ [(0, lv), (1, .int .i64 other), (5, .pointer (some ⟨p5, 0, none⟩)), (6, .int .i64 (i : Int)), (8, v14), (11, v18), (12, .bool tb)] [row v18 3 1 ((Wt.ofJ y other).map encZ), wt 62 p5 s2, row v14 3 1 ((Wt.ofJ x other).map encZ), var g13 [.int .i64 e12.kind, .int .i64 e12.call, .int .i64 e12.job] 44]
            refine J.seq ?_
            refine J.seq ?_
            refine J.region ?_
            refine O.p (Pu.move rfl) rfl ?_
            refine O.p (Pu.not rfl) rfl ?_
            refine O.p (Pu.move rfl) rfl ?_
            refine by_bool (!tb) (fun h20 => ?_) (fun h20 => ?_)
            ·
              have h21 : tb = false := not_flip h20
              refine O.gq (t := 103) rfl rfl h20 rfl (Pu.qt (Pu.move rfl)) rfl ?_
              refine O.gq (t := 103) rfl rfl h20 rfl (Pu.qt (Pu.move rfl)) rfl ?_
              refine O.gl (t := 103) rfl rfl h20 rfl (Lo.call [v18, v14] (by exact Try.call23) rfl (n01_Same v18 v14 (Wt.ofJ y other) (Wt.ofJ x other) (by first | omega | (refine Nat.le_trans Wt.ofJ_len ?_; omega)) (by first | omega | (refine Nat.le_trans Wt.ofJ_len ?_; omega))) [] [0, 1, 2, 3] (by decide) rfl [row v18 3 1 ((Wt.ofJ y other).map encZ), wt 62 p5 s2, row v14 3 1 ((Wt.ofJ x other).map encZ), var g13 [.int .i64 e12.kind, .int .i64 e12.call, .int .i64 e12.job] 44] rfl (RoOk.of 0 rfl row_rd [] (by decide) rfl (RoOk.of 2 rfl row_rd [] (by decide) rfl RoOk.nil))) rfl ?_
              rintro _ _ ⟨_, ⟨rfl, rfl⟩, rfl⟩
              refine O.gq (t := 103) rfl rfl h20 rfl (Pu.qt (Pu.not rfl)) rfl ?_
              refine O.p (Pu.pickT rfl h20 rfl) rfl ?_
              refine O.nil ?_
              refine J.condF rfl (not_of_true (decide_eq_true (hsam h21))) ?_
              refine J.skip ?_
              refine J.seq ?_
              refine J.region ?_
              refine O.p (Pu.assign rfl) rfl ?_
              refine O.nil ?_
              refine J.block ?_
              refine J.loop (X := Nat) (fun ξ => ξ ≤ (Wt.ofJ y other).length ∧ (Wt.ofJ y other).length ≤ 100000) (fun ξ => [(0, lv), (1, .int .i64 other), (5, .pointer (some ⟨p5, 0, none⟩)), (6, .int .i64 (i : Int)), (11, v18), (13, .int .i64 (ξ : Int))]) (fun ξ => [wt 62 p5 s2, row v18 3 1 ((Wt.ofJ y other).map encZ)]) (fun ξ => (Wt.ofJ y other).length - ξ) 0 (show 0 ≤ (Wt.ofJ y other).length ∧ (Wt.ofJ y other).length ≤ 100000 from ⟨by omega, by first | omega | (refine Nat.le_trans Wt.ofJ_len ?_; omega)⟩) ⟨rfl, rfl, rfl, rfl, rfl, (congrArg (fun z => some (Value.int .i64 z)) (by first | rfl | omega : (0 : Int) = (0 : Int))), trivial⟩ [1, 0] (by decide) rfl ?_
              rintro q hq23
              obtain ⟨hq, hql⟩ : q ≤ (Wt.ofJ y other).length ∧ (Wt.ofJ y other).length ≤ 100000 := hq23
              show J _ _ [(0, lv), (1, .int .i64 other), (5, .pointer (some ⟨p5, 0, none⟩)), (6, .int .i64 (i : Int)), (11, v18), (13, .int .i64 (q : Int))] [wt 62 p5 s2, row v18 3 1 ((Wt.ofJ y other).map encZ)]
              refine J.seq ?_
              refine J.seq ?_
              refine J.region ?_
              refine O.p (Pu.move rfl) rfl ?_
              refine O.p (Pu.move rfl) rfl ?_
              refine O.q (Qt.lenM Try.runUnderlying24 rfl (Src.row 1 rfl)) rfl ?_
              refine O.p (Pu.lss rfl rfl) rfl ?_
              refine O.nil ?_
              refine J.cond rfl (fun h24 => ?_) (fun h24 => ?_)
              ·
                have p25 := of_decide_eq_true h24
                refine J.skip ?_
                refine J.seq ?_
                refine J.block ?_
                refine J.seq ?_
                refine J.region ?_
                refine O.p (Pu.move rfl) rfl ?_
                refine O.p (Pu.move rfl) rfl ?_
                refine O.p (Pu.move rfl) rfl ?_
                obtain ⟨e26, he26⟩ : ∃ x_, (Wt.ofJ y other)[q]? = some x_ := ⟨_, List.getElem?_eq_getElem (by omega)⟩
                refine O.q (Qt.idxM Try.runUnderlying24 Try.sizeOf3 rfl (Src.row 1 rfl) rfl (by omega) (by omega)) rfl ?_
                refine O.q (Qt.ld rfl (Cel.eltM (Src.row 1 rfl) he26) (o := (voff v18 + q * 1)) (off := 0) (by omega) (Cut.one Try.isAgg3 rfl)) rfl ?_
                refine O.l (Lo.call [.pointer (some ⟨p5, 0, none⟩), .int .i64 e26] (by exact Try.call19) rfl (wt_JobOne p5 s2 y hR2 e26 other ((Wt.mem_ofJ (Wt.Rep.up hR2)).1 (List.mem_of_getElem? he26))) [] [0, 1] (by decide) rfl [wt 62 p5 s2, row v18 3 1 ((Wt.ofJ y other).map encZ)] rfl (RoOk.of 0 rfl same_rd [] (by decide) rfl RoOk.nil)) rfl ?_
                rintro _ _ ⟨_, ⟨rfl, rfl⟩, rfl⟩
                refine O.p (Pu.move rfl) rfl ?_
                refine O.p (Pu.extract rfl rfl) rfl ?_
                refine O.p (Pu.extract rfl rfl) rfl ?_
                refine O.p (Pu.assign rfl) rfl ?_
                refine O.p (Pu.assign rfl) rfl ?_
                refine O.nil ?_
                refine J.seq ?_
                refine J.drawStill Try.mixed (by kernel_rfl) ?_
                refine S.p (Pu.move rfl) rfl ?_
                refine S.p (Pu.move rfl) rfl ?_
                refine S.p (Pu.neq rfl rfl) rfl ?_
                refine S.p (Pu.move rfl) rfl ?_
                refine S.gq (t := 127) rfl rfl (by simp) rfl (Pu.qt (Pu.move rfl)) rfl ?_
                refine S.gq (t := 127) rfl rfl (by simp) rfl (Pu.qt (Pu.not rfl)) rfl ?_
                refine S.p (Pu.pickF rfl (by simp) rfl) rfl ?_
                refine S.p (Pu.move rfl) rfl ?_
                refine S.gq (t := 131) rfl rfl rfl rfl (Pu.qt (Pu.move rfl)) rfl ?_
                refine S.gq (t := 131) rfl rfl rfl rfl (Pu.qt (Pu.gtr rfl rfl)) rfl ?_
                refine S.gq (t := 131) rfl rfl rfl rfl (Pu.qt (Pu.move rfl)) rfl ?_
                refine by_bool (decide (0 < (q : Int))) (fun h28 => ?_) (fun h28 => ?_)
                ·
                  have p29 := of_decide_eq_true h28
                  refine S.gq (t := 134) rfl rfl h28 rfl (Pu.qt (Pu.move rfl)) rfl ?_
                  refine S.gq (t := 134) rfl rfl h28 rfl (Pu.qt (Pu.move rfl)) rfl ?_
                  refine S.gq (t := 134) rfl rfl h28 rfl (Qt.idxM Try.runUnderlying24 Try.sizeOf3 rfl (Src.row 1 rfl) rfl (by omega) (by omega)) rfl ?_
                  refine S.gq (t := 134) rfl rfl h28 rfl (Qt.ld rfl (Cel.eltM (Src.row 1 rfl) he26) (o := (voff v18 + q * 1)) (off := 0) (by omega) (Cut.one Try.isAgg3 rfl)) rfl ?_
                  refine S.gq (t := 134) rfl rfl h28 rfl (Pu.qt (Pu.move rfl)) rfl ?_
                  refine S.gq (t := 134) rfl rfl h28 rfl (Pu.qt (Pu.move rfl)) rfl ?_
                  refine S.gq (t := 134) rfl rfl h28 rfl (Pu.qt (Pu.sub' rfl rfl (by first | omega | (have h_ := Wt.ofJ_len (l := x) (j := other); omega)))) rfl ?_
                  obtain ⟨e30, he30⟩ : ∃ x_, (Wt.ofJ y other)[(q - 1)]? = some x_ := ⟨_, List.getElem?_eq_getElem (by omega)⟩
                  refine S.gq (t := 134) rfl rfl h28 rfl (Qt.idxM Try.runUnderlying24 Try.sizeOf3 rfl (Src.row 1 rfl) rfl (by omega) (by omega)) rfl ?_
                  refine S.gq (t := 134) rfl rfl h28 rfl (Qt.ld rfl (Cel.eltM (Src.row 1 rfl) he30) (o := (voff v18 + (q - 1) * 1)) (off := 0) (by omega) (Cut.one Try.isAgg3 rfl)) rfl ?_
                  refine S.gq (t := 134) rfl rfl h28 rfl (Pu.qt (Pu.leq rfl rfl)) rfl ?_
                  refine S.gq (t := 131) rfl rfl rfl rfl (Pu.qt (Pu.pickT rfl h28 rfl)) rfl ?_
                  refine S.p (Pu.pickF rfl rfl rfl) rfl ?_
                  refine S.endJ ?_
                  refine J.condF rfl (decide_eq_false (by have h_ := Wt.up_at (Wt.up_ofJ (Wt.Rep.up hR2)) he30 he26 (by omega); omega)) ?_
                  refine J.skip ?_
                  refine J.blk ?_
                  refine J.region ?_
                  refine O.p (Pu.move rfl) rfl ?_
                  refine O.p (Pu.add' rfl rfl (by first | omega | (have h_ := Wt.ofJ_len (l := x) (j := other); omega))) rfl ?_
                  refine O.p (Pu.assign rfl) rfl ?_
                  refine O.nil ?_
                  exact J.lp (q + 1) (show (q + 1) ≤ (Wt.ofJ y other).length ∧ (Wt.ofJ y other).length ≤ 100000 from ⟨by omega, hql⟩) (show (Wt.ofJ y other).length - (q + 1) < (Wt.ofJ y other).length - q from (by omega)) ⟨rfl, rfl, rfl, rfl, rfl, (congrArg (fun z => some (Value.int .i64 z)) (by first | rfl | omega : ((q : Int) + 1 : Int) = ((q + 1) : Int))), trivial⟩ [0, 1] (by decide) rfl
                ·
                  have p31 := of_decide_eq_false h28
                  refine S.gskip (t := 134) rfl rfl (no_bool (by rw [h28]; decide)) rfl rfl ?_
                  refine S.gskip (t := 134) rfl rfl (no_bool (by rw [h28]; decide)) rfl rfl ?_
                  refine S.gskip (t := 134) rfl rfl (no_bool (by rw [h28]; decide)) rfl rfl ?_
                  refine S.gskip (t := 134) rfl rfl (no_bool (by rw [h28]; decide)) rfl rfl ?_
                  refine S.gskip (t := 134) rfl rfl (no_bool (by rw [h28]; decide)) rfl rfl ?_
                  refine S.gskip (t := 134) rfl rfl (no_bool (by rw [h28]; decide)) rfl rfl ?_
                  refine S.gskip (t := 134) rfl rfl (no_bool (by rw [h28]; decide)) rfl rfl ?_
                  refine S.gskip (t := 134) rfl rfl (no_bool (by rw [h28]; decide)) rfl rfl ?_
                  refine S.gskip (t := 134) rfl rfl (no_bool (by rw [h28]; decide)) rfl rfl ?_
                  refine S.gskip (t := 134) rfl rfl (no_bool (by rw [h28]; decide)) rfl rfl ?_
                  refine S.gq (t := 131) rfl rfl rfl rfl (Pu.qt (Pu.pickF rfl h28 rfl)) rfl ?_
                  refine S.p (Pu.pickF rfl rfl rfl) rfl ?_
                  refine S.endJ ?_
                  refine J.condF rfl rfl ?_
                  refine J.skip ?_
                  refine J.blk ?_
                  refine J.region ?_
                  refine O.p (Pu.move rfl) rfl ?_
                  refine O.p (Pu.add' rfl rfl (by first | omega | (have h_ := Wt.ofJ_len (l := x) (j := other); omega))) rfl ?_
                  refine O.p (Pu.assign rfl) rfl ?_
                  refine O.nil ?_
                  exact J.lp (q + 1) (show (q + 1) ≤ (Wt.ofJ y other).length ∧ (Wt.ofJ y other).length ≤ 100000 from ⟨by omega, hql⟩) (show (Wt.ofJ y other).length - (q + 1) < (Wt.ofJ y other).length - q from (by omega)) ⟨rfl, rfl, rfl, rfl, rfl, (congrArg (fun z => some (Value.int .i64 z)) (by first | rfl | omega : ((q : Int) + 1 : Int) = ((q + 1) : Int))), trivial⟩ [0, 1] (by decide) rfl
              ·
                have p32 := of_decide_eq_false h24
                refine J.exit _ rfl ?_
                refine J.blk ?_
                refine J.region ?_
                refine O.p (Pu.move rfl) rfl ?_
                refine O.p (Pu.add' rfl rfl (by first | omega | (have h_ := Wt.ofJ_len (l := x) (j := other); omega))) rfl ?_
                refine O.p (Pu.assign rfl) rfl ?_
                refine O.nil ?_
                exact J.lp ⟨i + 1, s2, y⟩ (show (i + 1) ≤ l.length ∧ Wt.Rep y s2 ∧ y.length ≤ (i + 1) from ⟨by omega, hR2, (by first | omega | (refine Nat.le_trans Wt.ofJ_len ?_; omega))⟩) (show l.length - (i + 1) < l.length - i from (by omega)) ⟨rfl, rfl, rfl, (congrArg (fun z => some (Value.int .i64 z)) (by first | rfl | omega : ((i : Int) + 1 : Int) = ((i + 1) : Int))), trivial⟩ [0] (by decide) rfl
            ·
              have h33 : tb = true := not_flip h20
              refine O.gskip (t := 103) rfl rfl (no_bool (by rw [h20]; decide)) rfl rfl ?_
              refine O.gskip (t := 103) rfl rfl (no_bool (by rw [h20]; decide)) rfl rfl ?_
              refine O.gskip (t := 103) rfl rfl (no_bool (by rw [h20]; decide)) rfl rfl ?_
              refine O.gskip (t := 103) rfl rfl (no_bool (by rw [h20]; decide)) rfl rfl ?_
              refine O.p (Pu.pickF rfl h20 rfl) rfl ?_
              refine O.nil ?_
              refine J.condF rfl rfl ?_
              refine J.skip ?_
              refine J.seq ?_
              refine J.region ?_
              refine O.p (Pu.assign rfl) rfl ?_
              refine O.nil ?_
              refine J.block ?_
              refine J.loop (X := Nat) (fun ξ => ξ ≤ (Wt.ofJ y other).length ∧ (Wt.ofJ y other).length ≤ 100000) (fun ξ => [(0, lv), (1, .int .i64 other), (5, .pointer (some ⟨p5, 0, none⟩)), (6, .int .i64 (i : Int)), (11, v18), (13, .int .i64 (ξ : Int))]) (fun ξ => [wt 62 p5 s2, row v18 3 1 ((Wt.ofJ y other).map encZ)]) (fun ξ => (Wt.ofJ y other).length - ξ) 0 (show 0 ≤ (Wt.ofJ y other).length ∧ (Wt.ofJ y other).length ≤ 100000 from ⟨by omega, by first | omega | (refine Nat.le_trans Wt.ofJ_len ?_; omega)⟩) ⟨rfl, rfl, rfl, rfl, rfl, (congrArg (fun z => some (Value.int .i64 z)) (by first | rfl | omega : (0 : Int) = (0 : Int))), trivial⟩ [1, 0] (by decide) rfl ?_
              rintro q hq34
              obtain ⟨hq, hql⟩ : q ≤ (Wt.ofJ y other).length ∧ (Wt.ofJ y other).length ≤ 100000 := hq34
              show J _ _ [(0, lv), (1, .int .i64 other), (5, .pointer (some ⟨p5, 0, none⟩)), (6, .int .i64 (i : Int)), (11, v18), (13, .int .i64 (q : Int))] [wt 62 p5 s2, row v18 3 1 ((Wt.ofJ y other).map encZ)]
              refine J.seq ?_
              refine J.seq ?_
              refine J.region ?_
              refine O.p (Pu.move rfl) rfl ?_
              refine O.p (Pu.move rfl) rfl ?_
              refine O.q (Qt.lenM Try.runUnderlying24 rfl (Src.row 1 rfl)) rfl ?_
              refine O.p (Pu.lss rfl rfl) rfl ?_
              refine O.nil ?_
              refine J.cond rfl (fun h35 => ?_) (fun h35 => ?_)
              ·
                have p36 := of_decide_eq_true h35
                refine J.skip ?_
                refine J.seq ?_
                refine J.block ?_
                refine J.seq ?_
                refine J.region ?_
                refine O.p (Pu.move rfl) rfl ?_
                refine O.p (Pu.move rfl) rfl ?_
                refine O.p (Pu.move rfl) rfl ?_
                obtain ⟨e37, he37⟩ : ∃ x_, (Wt.ofJ y other)[q]? = some x_ := ⟨_, List.getElem?_eq_getElem (by omega)⟩
                refine O.q (Qt.idxM Try.runUnderlying24 Try.sizeOf3 rfl (Src.row 1 rfl) rfl (by omega) (by omega)) rfl ?_
                refine O.q (Qt.ld rfl (Cel.eltM (Src.row 1 rfl) he37) (o := (voff v18 + q * 1)) (off := 0) (by omega) (Cut.one Try.isAgg3 rfl)) rfl ?_
                refine O.l (Lo.call [.pointer (some ⟨p5, 0, none⟩), .int .i64 e37] (by exact Try.call19) rfl (wt_JobOne p5 s2 y hR2 e37 other ((Wt.mem_ofJ (Wt.Rep.up hR2)).1 (List.mem_of_getElem? he37))) [] [0, 1] (by decide) rfl [wt 62 p5 s2, row v18 3 1 ((Wt.ofJ y other).map encZ)] rfl (RoOk.of 0 rfl same_rd [] (by decide) rfl RoOk.nil)) rfl ?_
                rintro _ _ ⟨_, ⟨rfl, rfl⟩, rfl⟩
                refine O.p (Pu.move rfl) rfl ?_
                refine O.p (Pu.extract rfl rfl) rfl ?_
                refine O.p (Pu.extract rfl rfl) rfl ?_
                refine O.p (Pu.assign rfl) rfl ?_
                refine O.p (Pu.assign rfl) rfl ?_
                refine O.nil ?_
                refine J.seq ?_
                refine J.drawStill Try.mixed (by kernel_rfl) ?_
                refine S.p (Pu.move rfl) rfl ?_
                refine S.p (Pu.move rfl) rfl ?_
                refine S.p (Pu.neq rfl rfl) rfl ?_
                refine S.p (Pu.move rfl) rfl ?_
                refine S.gq (t := 127) rfl rfl (by simp) rfl (Pu.qt (Pu.move rfl)) rfl ?_
                refine S.gq (t := 127) rfl rfl (by simp) rfl (Pu.qt (Pu.not rfl)) rfl ?_
                refine S.p (Pu.pickF rfl (by simp) rfl) rfl ?_
                refine S.p (Pu.move rfl) rfl ?_
                refine S.gq (t := 131) rfl rfl rfl rfl (Pu.qt (Pu.move rfl)) rfl ?_
                refine S.gq (t := 131) rfl rfl rfl rfl (Pu.qt (Pu.gtr rfl rfl)) rfl ?_
                refine S.gq (t := 131) rfl rfl rfl rfl (Pu.qt (Pu.move rfl)) rfl ?_
                refine by_bool (decide (0 < (q : Int))) (fun h39 => ?_) (fun h39 => ?_)
                ·
                  have p40 := of_decide_eq_true h39
                  refine S.gq (t := 134) rfl rfl h39 rfl (Pu.qt (Pu.move rfl)) rfl ?_
                  refine S.gq (t := 134) rfl rfl h39 rfl (Pu.qt (Pu.move rfl)) rfl ?_
                  refine S.gq (t := 134) rfl rfl h39 rfl (Qt.idxM Try.runUnderlying24 Try.sizeOf3 rfl (Src.row 1 rfl) rfl (by omega) (by omega)) rfl ?_
                  refine S.gq (t := 134) rfl rfl h39 rfl (Qt.ld rfl (Cel.eltM (Src.row 1 rfl) he37) (o := (voff v18 + q * 1)) (off := 0) (by omega) (Cut.one Try.isAgg3 rfl)) rfl ?_
                  refine S.gq (t := 134) rfl rfl h39 rfl (Pu.qt (Pu.move rfl)) rfl ?_
                  refine S.gq (t := 134) rfl rfl h39 rfl (Pu.qt (Pu.move rfl)) rfl ?_
                  refine S.gq (t := 134) rfl rfl h39 rfl (Pu.qt (Pu.sub' rfl rfl (by first | omega | (have h_ := Wt.ofJ_len (l := x) (j := other); omega)))) rfl ?_
                  obtain ⟨e41, he41⟩ : ∃ x_, (Wt.ofJ y other)[(q - 1)]? = some x_ := ⟨_, List.getElem?_eq_getElem (by omega)⟩
                  refine S.gq (t := 134) rfl rfl h39 rfl (Qt.idxM Try.runUnderlying24 Try.sizeOf3 rfl (Src.row 1 rfl) rfl (by omega) (by omega)) rfl ?_
                  refine S.gq (t := 134) rfl rfl h39 rfl (Qt.ld rfl (Cel.eltM (Src.row 1 rfl) he41) (o := (voff v18 + (q - 1) * 1)) (off := 0) (by omega) (Cut.one Try.isAgg3 rfl)) rfl ?_
                  refine S.gq (t := 134) rfl rfl h39 rfl (Pu.qt (Pu.leq rfl rfl)) rfl ?_
                  refine S.gq (t := 131) rfl rfl rfl rfl (Pu.qt (Pu.pickT rfl h39 rfl)) rfl ?_
                  refine S.p (Pu.pickF rfl rfl rfl) rfl ?_
                  refine S.endJ ?_
                  refine J.condF rfl (decide_eq_false (by have h_ := Wt.up_at (Wt.up_ofJ (Wt.Rep.up hR2)) he41 he37 (by omega); omega)) ?_
                  refine J.skip ?_
                  refine J.blk ?_
                  refine J.region ?_
                  refine O.p (Pu.move rfl) rfl ?_
                  refine O.p (Pu.add' rfl rfl (by first | omega | (have h_ := Wt.ofJ_len (l := x) (j := other); omega))) rfl ?_
                  refine O.p (Pu.assign rfl) rfl ?_
                  refine O.nil ?_
                  exact J.lp (q + 1) (show (q + 1) ≤ (Wt.ofJ y other).length ∧ (Wt.ofJ y other).length ≤ 100000 from ⟨by omega, hql⟩) (show (Wt.ofJ y other).length - (q + 1) < (Wt.ofJ y other).length - q from (by omega)) ⟨rfl, rfl, rfl, rfl, rfl, (congrArg (fun z => some (Value.int .i64 z)) (by first | rfl | omega : ((q : Int) + 1 : Int) = ((q + 1) : Int))), trivial⟩ [0, 1] (by decide) rfl
                ·
                  have p42 := of_decide_eq_false h39
                  refine S.gskip (t := 134) rfl rfl (no_bool (by rw [h39]; decide)) rfl rfl ?_
                  refine S.gskip (t := 134) rfl rfl (no_bool (by rw [h39]; decide)) rfl rfl ?_
                  refine S.gskip (t := 134) rfl rfl (no_bool (by rw [h39]; decide)) rfl rfl ?_
                  refine S.gskip (t := 134) rfl rfl (no_bool (by rw [h39]; decide)) rfl rfl ?_
                  refine S.gskip (t := 134) rfl rfl (no_bool (by rw [h39]; decide)) rfl rfl ?_
                  refine S.gskip (t := 134) rfl rfl (no_bool (by rw [h39]; decide)) rfl rfl ?_
                  refine S.gskip (t := 134) rfl rfl (no_bool (by rw [h39]; decide)) rfl rfl ?_
                  refine S.gskip (t := 134) rfl rfl (no_bool (by rw [h39]; decide)) rfl rfl ?_
                  refine S.gskip (t := 134) rfl rfl (no_bool (by rw [h39]; decide)) rfl rfl ?_
                  refine S.gskip (t := 134) rfl rfl (no_bool (by rw [h39]; decide)) rfl rfl ?_
                  refine S.gq (t := 131) rfl rfl rfl rfl (Pu.qt (Pu.pickF rfl h39 rfl)) rfl ?_
                  refine S.p (Pu.pickF rfl rfl rfl) rfl ?_
                  refine S.endJ ?_
                  refine J.condF rfl rfl ?_
                  refine J.skip ?_
                  refine J.blk ?_
                  refine J.region ?_
                  refine O.p (Pu.move rfl) rfl ?_
                  refine O.p (Pu.add' rfl rfl (by first | omega | (have h_ := Wt.ofJ_len (l := x) (j := other); omega))) rfl ?_
                  refine O.p (Pu.assign rfl) rfl ?_
                  refine O.nil ?_
                  exact J.lp (q + 1) (show (q + 1) ≤ (Wt.ofJ y other).length ∧ (Wt.ofJ y other).length ≤ 100000 from ⟨by omega, hql⟩) (show (Wt.ofJ y other).length - (q + 1) < (Wt.ofJ y other).length - q from (by omega)) ⟨rfl, rfl, rfl, rfl, rfl, (congrArg (fun z => some (Value.int .i64 z)) (by first | rfl | omega : ((q : Int) + 1 : Int) = ((q + 1) : Int))), trivial⟩ [0, 1] (by decide) rfl
              ·
                have p43 := of_decide_eq_false h35
                refine J.exit _ rfl ?_
                refine J.blk ?_
                refine J.region ?_
                refine O.p (Pu.move rfl) rfl ?_
                refine O.p (Pu.add' rfl rfl (by first | omega | (have h_ := Wt.ofJ_len (l := x) (j := other); omega))) rfl ?_
                refine O.p (Pu.assign rfl) rfl ?_
                refine O.nil ?_
                exact J.lp ⟨i + 1, s2, y⟩ (show (i + 1) ≤ l.length ∧ Wt.Rep y s2 ∧ y.length ≤ (i + 1) from ⟨by omega, hR2, (by first | omega | (refine Nat.le_trans Wt.ofJ_len ?_; omega))⟩) (show l.length - (i + 1) < l.length - i from (by omega)) ⟨rfl, rfl, rfl, (congrArg (fun z => some (Value.int .i64 z)) (by first | rfl | omega : ((i : Int) + 1 : Int) = ((i + 1) : Int))), trivial⟩ [0] (by decide) rfl
          ·
            refine J.region ?_
            refine O.p (Pu.fieldAddr (off' := 0) Try.runUnderlying44 rfl Try.sizeOf3 rfl rfl rfl) rfl ?_
            refine O.q (Qt.ld rfl (Cel.var 3 rfl) (o := 0) (off := 0) rfl (Cut.one Try.isAgg3 rfl)) rfl ?_
            refine O.p (Pu.eql rfl rfl) rfl ?_
            refine O.p (Pu.move rfl) rfl ?_
            refine by_bool (decide (e12.kind = 0)) (fun h44 => ?_) (fun h44 => ?_)
            ·
              have p45 := of_decide_eq_true h44
              refine O.gq (t := 71) rfl rfl h44 rfl (Pu.qt (Pu.fieldAddr (off' := 2) Try.runUnderlying44 rfl Try.sizeOf3 rfl rfl rfl)) rfl ?_
              refine O.gq (t := 71) rfl rfl h44 rfl (Qt.ld rfl (Cel.var 3 rfl) (o := 0) (off := 2) rfl (Cut.one Try.isAgg3 rfl)) rfl ?_
              refine O.gq (t := 71) rfl rfl h44 rfl (Pu.qt (Pu.move rfl)) rfl ?_
              refine O.gq (t := 71) rfl rfl h44 rfl (Pu.qt (Pu.eql rfl rfl)) rfl ?_
              refine O.p (Pu.pickT rfl h44 rfl) rfl ?_
              refine O.p (Pu.move rfl) rfl ?_
              refine by_bool (decide (e12.job = other)) (fun h46 => ?_) (fun h46 => ?_)
              ·
                have p47 := of_decide_eq_true h46
                refine O.gskip (t := 77) rfl rfl (no_bool (by rw [h46]; decide)) rfl rfl ?_
                refine O.gskip (t := 77) rfl rfl (no_bool (by rw [h46]; decide)) rfl rfl ?_
                refine O.gskip (t := 77) rfl rfl (no_bool (by rw [h46]; decide)) rfl rfl ?_
                refine O.gskip (t := 77) rfl rfl (no_bool (by rw [h46]; decide)) rfl rfl ?_
                refine O.gskip (t := 81) rfl rfl (no_undef _) rfl rfl ?_
                refine O.gskip (t := 77) rfl rfl (no_bool (by rw [h46]; decide)) rfl rfl ?_
                refine O.gskip (t := 77) rfl rfl (no_bool (by rw [h46]; decide)) rfl rfl ?_
                refine O.gskip (t := 84) rfl rfl (no_undef _) rfl rfl ?_
                refine O.gskip (t := 84) rfl rfl (no_undef _) rfl rfl ?_
                refine O.gskip (t := 84) rfl rfl (no_undef _) rfl rfl ?_
                refine O.gskip (t := 77) rfl rfl (no_bool (by rw [h46]; decide)) rfl rfl ?_
                refine O.p (Pu.pickT rfl h46 rfl) rfl ?_
                refine O.p (Pu.move rfl) rfl ?_
                refine O.gskip (t := 90) rfl rfl (no_bool (by decide)) rfl rfl ?_
                refine O.gskip (t := 90) rfl rfl (no_bool (by decide)) rfl rfl ?_
                refine O.gskip (t := 90) rfl rfl (no_bool (by decide)) rfl rfl ?_
                refine O.gskip (t := 90) rfl rfl (no_bool (by decide)) rfl rfl ?_
                refine O.gskip (t := 94) rfl rfl (no_undef _) rfl rfl ?_
                refine O.gskip (t := 94) rfl rfl (no_undef _) rfl rfl ?_
                refine O.gskip (t := 94) rfl rfl (no_undef _) rfl rfl ?_
                refine O.gskip (t := 94) rfl rfl (no_undef _) rfl rfl ?_
                refine O.gskip (t := 90) rfl rfl (no_bool (by decide)) rfl rfl ?_
                refine O.p (Pu.pickT rfl rfl rfl) rfl ?_
                refine O.p (Pu.assign rfl) rfl ?_
                refine O.nil ?_
                exact J.cutEnd true (show (true = false → Wt.ofJ y other = Wt.ofJ x other) from (fun h_ => by first | (cases h_; done) | exact hsame (fun q_ => by first | omega | (have h4_ := of_decide_eq_false h_; omega)) (fun q_ => by first | omega | (have h3_ := q_.2; simp [h3_] at *)) (fun q_ => by first | omega | (have h4_ := of_decide_eq_false h_; omega)))) ⟨rfl, rfl, rfl, rfl, rfl, rfl, rfl, trivial⟩ [0, 1, 2, 3] (by decide) rfl
              ·
                have p48 := of_decide_eq_false h46
                refine O.gq (t := 77) rfl rfl h46 rfl (Pu.qt (Pu.fieldAddr (off' := 0) Try.runUnderlying44 rfl Try.sizeOf3 rfl rfl rfl)) rfl ?_
                refine O.gq (t := 77) rfl rfl h46 rfl (Qt.ld rfl (Cel.var 3 rfl) (o := 0) (off := 0) rfl (Cut.one Try.isAgg3 rfl)) rfl ?_
                refine O.gq (t := 77) rfl rfl h46 rfl (Pu.qt (Pu.eql rfl rfl)) rfl ?_
                refine O.gq (t := 77) rfl rfl h46 rfl (Pu.qt (Pu.move rfl)) rfl ?_
                refine by_bool (decide (e12.kind = 1)) (fun h49 => ?_) (fun h49 => ?_)
                ·
                  have p50 := of_decide_eq_true h49
                  refine O.gq (t := 81) rfl rfl h49 rfl (Pu.qt (Pu.move rfl)) rfl ?_
                  refine O.gq (t := 77) rfl rfl h46 rfl (Pu.qt (Pu.pickT rfl h49 rfl)) rfl ?_
                  refine O.gq (t := 77) rfl rfl h46 rfl (Pu.qt (Pu.move rfl)) rfl ?_
                  refine O.gq (t := 84) rfl rfl rfl rfl (Pu.qt (Pu.move rfl)) rfl ?_
                  refine O.gq (t := 84) rfl rfl rfl rfl (Pu.qt (Pu.move rfl)) rfl ?_
                  refine O.gq (t := 84) rfl rfl rfl rfl (Pu.qt (Pu.eql rfl rfl)) rfl ?_
                  refine O.gq (t := 77) rfl rfl h46 rfl (Pu.qt (Pu.pickT rfl rfl rfl)) rfl ?_
                  refine O.p (Pu.pickF rfl h46 rfl) rfl ?_
                  refine O.p (Pu.move rfl) rfl ?_
                  refine by_bool (decide (((Wt.jobOf x e12.call).getD 0) = other)) (fun h51 => ?_) (fun h51 => ?_)
                  ·
                    have p52 := of_decide_eq_true h51
                    refine O.gskip (t := 90) rfl rfl (no_bool (by rw [h51]; decide)) rfl rfl ?_
                    refine O.gskip (t := 90) rfl rfl (no_bool (by rw [h51]; decide)) rfl rfl ?_
                    refine O.gskip (t := 90) rfl rfl (no_bool (by rw [h51]; decide)) rfl rfl ?_
                    refine O.gskip (t := 90) rfl rfl (no_bool (by rw [h51]; decide)) rfl rfl ?_
                    refine O.gskip (t := 94) rfl rfl (no_undef _) rfl rfl ?_
                    refine O.gskip (t := 94) rfl rfl (no_undef _) rfl rfl ?_
                    refine O.gskip (t := 94) rfl rfl (no_undef _) rfl rfl ?_
                    refine O.gskip (t := 94) rfl rfl (no_undef _) rfl rfl ?_
                    refine O.gskip (t := 90) rfl rfl (no_bool (by rw [h51]; decide)) rfl rfl ?_
                    refine O.p (Pu.pickT rfl h51 rfl) rfl ?_
                    refine O.p (Pu.assign rfl) rfl ?_
                    refine O.nil ?_
                    exact J.cutEnd true (show (true = false → Wt.ofJ y other = Wt.ofJ x other) from (fun h_ => by first | (cases h_; done) | exact hsame (fun q_ => by first | omega | (have h4_ := of_decide_eq_false h_; omega)) (fun q_ => by first | omega | (have h3_ := q_.2; simp [h3_] at *)) (fun q_ => by first | omega | (have h4_ := of_decide_eq_false h_; omega)))) ⟨rfl, rfl, rfl, rfl, rfl, rfl, rfl, trivial⟩ [0, 1, 2, 3] (by decide) rfl
                  ·
                    have p53 := of_decide_eq_false h51
                    refine O.gq (t := 90) rfl rfl h51 rfl (Pu.qt (Pu.fieldAddr (off' := 0) Try.runUnderlying44 rfl Try.sizeOf3 rfl rfl rfl)) rfl ?_
                    refine O.gq (t := 90) rfl rfl h51 rfl (Qt.ld rfl (Cel.var 3 rfl) (o := 0) (off := 0) rfl (Cut.one Try.isAgg3 rfl)) rfl ?_
                    refine O.gq (t := 90) rfl rfl h51 rfl (Pu.qt (Pu.eql rfl rfl)) rfl ?_
                    refine O.gq (t := 90) rfl rfl h51 rfl (Pu.qt (Pu.move rfl)) rfl ?_
                    refine by_bool (decide (e12.kind = 2)) (fun h54 => ?_) (fun h54 => ?_)
                    ·
                      have p55 := of_decide_eq_true h54
                      refine O.gq (t := 94) rfl rfl h54 rfl (Pu.qt (Pu.fieldAddr (off' := 2) Try.runUnderlying44 rfl Try.sizeOf3 rfl rfl rfl)) rfl ?_
                      refine O.gq (t := 94) rfl rfl h54 rfl (Qt.ld rfl (Cel.var 3 rfl) (o := 0) (off := 2) rfl (Cut.one Try.isAgg3 rfl)) rfl ?_
                      refine O.gq (t := 94) rfl rfl h54 rfl (Pu.qt (Pu.move rfl)) rfl ?_
                      refine O.gq (t := 94) rfl rfl h54 rfl (Pu.qt (Pu.eql rfl rfl)) rfl ?_
                      refine O.gq (t := 90) rfl rfl h51 rfl (Pu.qt (Pu.pickT rfl h54 rfl)) rfl ?_
                      refine O.p (Pu.pickF rfl h51 rfl) rfl ?_
                      refine O.p (Pu.assign rfl) rfl ?_
                      refine O.nil ?_
                      exact J.cutEnd (decide (e12.job = other)) (show ((decide (e12.job = other)) = false → Wt.ofJ y other = Wt.ofJ x other) from (fun h_ => by first | (cases h_; done) | exact hsame (fun q_ => by first | omega | (have h4_ := of_decide_eq_false h_; omega)) (fun q_ => by first | omega | (have h3_ := q_.2; simp [h3_] at *)) (fun q_ => by first | omega | (have h4_ := of_decide_eq_false h_; omega)))) ⟨rfl, rfl, rfl, rfl, rfl, rfl, rfl, trivial⟩ [0, 1, 2, 3] (by decide) rfl
                    ·
                      have p56 := of_decide_eq_false h54
                      refine O.gskip (t := 94) rfl rfl (no_bool (by rw [h54]; decide)) rfl rfl ?_
                      refine O.gskip (t := 94) rfl rfl (no_bool (by rw [h54]; decide)) rfl rfl ?_
                      refine O.gskip (t := 94) rfl rfl (no_bool (by rw [h54]; decide)) rfl rfl ?_
                      refine O.gskip (t := 94) rfl rfl (no_bool (by rw [h54]; decide)) rfl rfl ?_
                      refine O.gq (t := 90) rfl rfl h51 rfl (Pu.qt (Pu.pickF rfl h54 rfl)) rfl ?_
                      refine O.p (Pu.pickF rfl h51 rfl) rfl ?_
                      refine O.p (Pu.assign rfl) rfl ?_
                      refine O.nil ?_
                      exact J.cutEnd false (show (false = false → Wt.ofJ y other = Wt.ofJ x other) from (fun h_ => by first | (cases h_; done) | exact hsame (fun q_ => by first | omega | (have h4_ := of_decide_eq_false h_; omega)) (fun q_ => by first | omega | (have h3_ := q_.2; simp [h3_] at *)) (fun q_ => by first | omega | (have h4_ := of_decide_eq_false h_; omega)))) ⟨rfl, rfl, rfl, rfl, rfl, rfl, rfl, trivial⟩ [0, 1, 2, 3] (by decide) rfl
                ·
                  have p57 := of_decide_eq_false h49
                  refine O.gskip (t := 81) rfl rfl (no_bool (by rw [h49]; decide)) rfl rfl ?_
                  refine O.gq (t := 77) rfl rfl h46 rfl (Pu.qt (Pu.pickF rfl h49 rfl)) rfl ?_
                  refine O.gq (t := 77) rfl rfl h46 rfl (Pu.qt (Pu.move rfl)) rfl ?_
                  refine O.gskip (t := 84) rfl rfl (no_bool (by decide)) rfl rfl ?_
                  refine O.gskip (t := 84) rfl rfl (no_bool (by decide)) rfl rfl ?_
                  refine O.gskip (t := 84) rfl rfl (no_bool (by decide)) rfl rfl ?_
                  refine O.gq (t := 77) rfl rfl h46 rfl (Pu.qt (Pu.pickF rfl rfl rfl)) rfl ?_
                  refine O.p (Pu.pickF rfl h46 rfl) rfl ?_
                  refine O.p (Pu.move rfl) rfl ?_
                  refine O.gq (t := 90) rfl rfl rfl rfl (Pu.qt (Pu.fieldAddr (off' := 0) Try.runUnderlying44 rfl Try.sizeOf3 rfl rfl rfl)) rfl ?_
                  refine O.gq (t := 90) rfl rfl rfl rfl (Qt.ld rfl (Cel.var 3 rfl) (o := 0) (off := 0) rfl (Cut.one Try.isAgg3 rfl)) rfl ?_
                  refine O.gq (t := 90) rfl rfl rfl rfl (Pu.qt (Pu.eql rfl rfl)) rfl ?_
                  refine O.gq (t := 90) rfl rfl rfl rfl (Pu.qt (Pu.move rfl)) rfl ?_
                  refine by_bool (decide (e12.kind = 2)) (fun h58 => ?_) (fun h58 => ?_)
                  ·
                    have p59 := of_decide_eq_true h58
                    refine O.gq (t := 94) rfl rfl h58 rfl (Pu.qt (Pu.fieldAddr (off' := 2) Try.runUnderlying44 rfl Try.sizeOf3 rfl rfl rfl)) rfl ?_
                    refine O.gq (t := 94) rfl rfl h58 rfl (Qt.ld rfl (Cel.var 3 rfl) (o := 0) (off := 2) rfl (Cut.one Try.isAgg3 rfl)) rfl ?_
                    refine O.gq (t := 94) rfl rfl h58 rfl (Pu.qt (Pu.move rfl)) rfl ?_
                    refine O.gq (t := 94) rfl rfl h58 rfl (Pu.qt (Pu.eql rfl rfl)) rfl ?_
                    refine O.gq (t := 90) rfl rfl rfl rfl (Pu.qt (Pu.pickT rfl h58 rfl)) rfl ?_
                    refine O.p (Pu.pickF rfl rfl rfl) rfl ?_
                    refine O.p (Pu.assign rfl) rfl ?_
                    refine O.nil ?_
                    exact J.cutEnd (decide (e12.job = other)) (show ((decide (e12.job = other)) = false → Wt.ofJ y other = Wt.ofJ x other) from (fun h_ => by first | (cases h_; done) | exact hsame (fun q_ => by first | omega | (have h4_ := of_decide_eq_false h_; omega)) (fun q_ => by first | omega | (have h3_ := q_.2; simp [h3_] at *)) (fun q_ => by first | omega | (have h4_ := of_decide_eq_false h_; omega)))) ⟨rfl, rfl, rfl, rfl, rfl, rfl, rfl, trivial⟩ [0, 1, 2, 3] (by decide) rfl
                  ·
                    have p60 := of_decide_eq_false h58
                    refine O.gskip (t := 94) rfl rfl (no_bool (by rw [h58]; decide)) rfl rfl ?_
                    refine O.gskip (t := 94) rfl rfl (no_bool (by rw [h58]; decide)) rfl rfl ?_
                    refine O.gskip (t := 94) rfl rfl (no_bool (by rw [h58]; decide)) rfl rfl ?_
                    refine O.gskip (t := 94) rfl rfl (no_bool (by rw [h58]; decide)) rfl rfl ?_
                    refine O.gq (t := 90) rfl rfl rfl rfl (Pu.qt (Pu.pickF rfl h58 rfl)) rfl ?_
                    refine O.p (Pu.pickF rfl rfl rfl) rfl ?_
                    refine O.p (Pu.assign rfl) rfl ?_
                    refine O.nil ?_
                    exact J.cutEnd false (show (false = false → Wt.ofJ y other = Wt.ofJ x other) from (fun h_ => by first | (cases h_; done) | exact hsame (fun q_ => by first | omega | (have h4_ := of_decide_eq_false h_; omega)) (fun q_ => by first | omega | (have h3_ := q_.2; simp [h3_] at *)) (fun q_ => by first | omega | (have h4_ := of_decide_eq_false h_; omega)))) ⟨rfl, rfl, rfl, rfl, rfl, rfl, rfl, trivial⟩ [0, 1, 2, 3] (by decide) rfl
            ·
              have p61 := of_decide_eq_false h44
              refine O.gskip (t := 71) rfl rfl (no_bool (by rw [h44]; decide)) rfl rfl ?_
              refine O.gskip (t := 71) rfl rfl (no_bool (by rw [h44]; decide)) rfl rfl ?_
              refine O.gskip (t := 71) rfl rfl (no_bool (by rw [h44]; decide)) rfl rfl ?_
              refine O.gskip (t := 71) rfl rfl (no_bool (by rw [h44]; decide)) rfl rfl ?_
              refine O.p (Pu.pickF rfl h44 rfl) rfl ?_
              refine O.p (Pu.move rfl) rfl ?_
              refine O.gq (t := 77) rfl rfl rfl rfl (Pu.qt (Pu.fieldAddr (off' := 0) Try.runUnderlying44 rfl Try.sizeOf3 rfl rfl rfl)) rfl ?_
              refine O.gq (t := 77) rfl rfl rfl rfl (Qt.ld rfl (Cel.var 3 rfl) (o := 0) (off := 0) rfl (Cut.one Try.isAgg3 rfl)) rfl ?_
              refine O.gq (t := 77) rfl rfl rfl rfl (Pu.qt (Pu.eql rfl rfl)) rfl ?_
              refine O.gq (t := 77) rfl rfl rfl rfl (Pu.qt (Pu.move rfl)) rfl ?_
              refine by_bool (decide (e12.kind = 1)) (fun h62 => ?_) (fun h62 => ?_)
              ·
                have p63 := of_decide_eq_true h62
                refine O.gq (t := 81) rfl rfl h62 rfl (Pu.qt (Pu.move rfl)) rfl ?_
                refine O.gq (t := 77) rfl rfl rfl rfl (Pu.qt (Pu.pickT rfl h62 rfl)) rfl ?_
                refine O.gq (t := 77) rfl rfl rfl rfl (Pu.qt (Pu.move rfl)) rfl ?_
                refine O.gq (t := 84) rfl rfl rfl rfl (Pu.qt (Pu.move rfl)) rfl ?_
                refine O.gq (t := 84) rfl rfl rfl rfl (Pu.qt (Pu.move rfl)) rfl ?_
                refine O.gq (t := 84) rfl rfl rfl rfl (Pu.qt (Pu.eql rfl rfl)) rfl ?_
                refine O.gq (t := 77) rfl rfl rfl rfl (Pu.qt (Pu.pickT rfl rfl rfl)) rfl ?_
                refine O.p (Pu.pickF rfl rfl rfl) rfl ?_
                refine O.p (Pu.move rfl) rfl ?_
                refine by_bool (decide (((Wt.jobOf x e12.call).getD 0) = other)) (fun h64 => ?_) (fun h64 => ?_)
                ·
                  have p65 := of_decide_eq_true h64
                  refine O.gskip (t := 90) rfl rfl (no_bool (by rw [h64]; decide)) rfl rfl ?_
                  refine O.gskip (t := 90) rfl rfl (no_bool (by rw [h64]; decide)) rfl rfl ?_
                  refine O.gskip (t := 90) rfl rfl (no_bool (by rw [h64]; decide)) rfl rfl ?_
                  refine O.gskip (t := 90) rfl rfl (no_bool (by rw [h64]; decide)) rfl rfl ?_
                  refine O.gskip (t := 94) rfl rfl (no_undef _) rfl rfl ?_
                  refine O.gskip (t := 94) rfl rfl (no_undef _) rfl rfl ?_
                  refine O.gskip (t := 94) rfl rfl (no_undef _) rfl rfl ?_
                  refine O.gskip (t := 94) rfl rfl (no_undef _) rfl rfl ?_
                  refine O.gskip (t := 90) rfl rfl (no_bool (by rw [h64]; decide)) rfl rfl ?_
                  refine O.p (Pu.pickT rfl h64 rfl) rfl ?_
                  refine O.p (Pu.assign rfl) rfl ?_
                  refine O.nil ?_
                  exact J.cutEnd true (show (true = false → Wt.ofJ y other = Wt.ofJ x other) from (fun h_ => by first | (cases h_; done) | exact hsame (fun q_ => by first | omega | (have h4_ := of_decide_eq_false h_; omega)) (fun q_ => by first | omega | (have h3_ := q_.2; simp [h3_] at *)) (fun q_ => by first | omega | (have h4_ := of_decide_eq_false h_; omega)))) ⟨rfl, rfl, rfl, rfl, rfl, rfl, rfl, trivial⟩ [0, 1, 2, 3] (by decide) rfl
                ·
                  have p66 := of_decide_eq_false h64
                  refine O.gq (t := 90) rfl rfl h64 rfl (Pu.qt (Pu.fieldAddr (off' := 0) Try.runUnderlying44 rfl Try.sizeOf3 rfl rfl rfl)) rfl ?_
                  refine O.gq (t := 90) rfl rfl h64 rfl (Qt.ld rfl (Cel.var 3 rfl) (o := 0) (off := 0) rfl (Cut.one Try.isAgg3 rfl)) rfl ?_
                  refine O.gq (t := 90) rfl rfl h64 rfl (Pu.qt (Pu.eql rfl rfl)) rfl ?_
                  refine O.gq (t := 90) rfl rfl h64 rfl (Pu.qt (Pu.move rfl)) rfl ?_
                  refine by_bool (decide (e12.kind = 2)) (fun h67 => ?_) (fun h67 => ?_)
                  ·
                    have p68 := of_decide_eq_true h67
                    refine O.gq (t := 94) rfl rfl h67 rfl (Pu.qt (Pu.fieldAddr (off' := 2) Try.runUnderlying44 rfl Try.sizeOf3 rfl rfl rfl)) rfl ?_
                    refine O.gq (t := 94) rfl rfl h67 rfl (Qt.ld rfl (Cel.var 3 rfl) (o := 0) (off := 2) rfl (Cut.one Try.isAgg3 rfl)) rfl ?_
                    refine O.gq (t := 94) rfl rfl h67 rfl (Pu.qt (Pu.move rfl)) rfl ?_
                    refine O.gq (t := 94) rfl rfl h67 rfl (Pu.qt (Pu.eql rfl rfl)) rfl ?_
                    refine O.gq (t := 90) rfl rfl h64 rfl (Pu.qt (Pu.pickT rfl h67 rfl)) rfl ?_
                    refine O.p (Pu.pickF rfl h64 rfl) rfl ?_
                    refine O.p (Pu.assign rfl) rfl ?_
                    refine O.nil ?_
                    exact J.cutEnd (decide (e12.job = other)) (show ((decide (e12.job = other)) = false → Wt.ofJ y other = Wt.ofJ x other) from (fun h_ => by first | (cases h_; done) | exact hsame (fun q_ => by first | omega | (have h4_ := of_decide_eq_false h_; omega)) (fun q_ => by first | omega | (have h3_ := q_.2; simp [h3_] at *)) (fun q_ => by first | omega | (have h4_ := of_decide_eq_false h_; omega)))) ⟨rfl, rfl, rfl, rfl, rfl, rfl, rfl, trivial⟩ [0, 1, 2, 3] (by decide) rfl
                  ·
                    have p69 := of_decide_eq_false h67
                    refine O.gskip (t := 94) rfl rfl (no_bool (by rw [h67]; decide)) rfl rfl ?_
                    refine O.gskip (t := 94) rfl rfl (no_bool (by rw [h67]; decide)) rfl rfl ?_
                    refine O.gskip (t := 94) rfl rfl (no_bool (by rw [h67]; decide)) rfl rfl ?_
                    refine O.gskip (t := 94) rfl rfl (no_bool (by rw [h67]; decide)) rfl rfl ?_
                    refine O.gq (t := 90) rfl rfl h64 rfl (Pu.qt (Pu.pickF rfl h67 rfl)) rfl ?_
                    refine O.p (Pu.pickF rfl h64 rfl) rfl ?_
                    refine O.p (Pu.assign rfl) rfl ?_
                    refine O.nil ?_
                    exact J.cutEnd false (show (false = false → Wt.ofJ y other = Wt.ofJ x other) from (fun h_ => by first | (cases h_; done) | exact hsame (fun q_ => by first | omega | (have h4_ := of_decide_eq_false h_; omega)) (fun q_ => by first | omega | (have h3_ := q_.2; simp [h3_] at *)) (fun q_ => by first | omega | (have h4_ := of_decide_eq_false h_; omega)))) ⟨rfl, rfl, rfl, rfl, rfl, rfl, rfl, trivial⟩ [0, 1, 2, 3] (by decide) rfl
              ·
                have p70 := of_decide_eq_false h62
                refine O.gskip (t := 81) rfl rfl (no_bool (by rw [h62]; decide)) rfl rfl ?_
                refine O.gq (t := 77) rfl rfl rfl rfl (Pu.qt (Pu.pickF rfl h62 rfl)) rfl ?_
                refine O.gq (t := 77) rfl rfl rfl rfl (Pu.qt (Pu.move rfl)) rfl ?_
                refine O.gskip (t := 84) rfl rfl (no_bool (by decide)) rfl rfl ?_
                refine O.gskip (t := 84) rfl rfl (no_bool (by decide)) rfl rfl ?_
                refine O.gskip (t := 84) rfl rfl (no_bool (by decide)) rfl rfl ?_
                refine O.gq (t := 77) rfl rfl rfl rfl (Pu.qt (Pu.pickF rfl rfl rfl)) rfl ?_
                refine O.p (Pu.pickF rfl rfl rfl) rfl ?_
                refine O.p (Pu.move rfl) rfl ?_
                refine O.gq (t := 90) rfl rfl rfl rfl (Pu.qt (Pu.fieldAddr (off' := 0) Try.runUnderlying44 rfl Try.sizeOf3 rfl rfl rfl)) rfl ?_
                refine O.gq (t := 90) rfl rfl rfl rfl (Qt.ld rfl (Cel.var 3 rfl) (o := 0) (off := 0) rfl (Cut.one Try.isAgg3 rfl)) rfl ?_
                refine O.gq (t := 90) rfl rfl rfl rfl (Pu.qt (Pu.eql rfl rfl)) rfl ?_
                refine O.gq (t := 90) rfl rfl rfl rfl (Pu.qt (Pu.move rfl)) rfl ?_
                refine by_bool (decide (e12.kind = 2)) (fun h71 => ?_) (fun h71 => ?_)
                ·
                  have p72 := of_decide_eq_true h71
                  refine O.gq (t := 94) rfl rfl h71 rfl (Pu.qt (Pu.fieldAddr (off' := 2) Try.runUnderlying44 rfl Try.sizeOf3 rfl rfl rfl)) rfl ?_
                  refine O.gq (t := 94) rfl rfl h71 rfl (Qt.ld rfl (Cel.var 3 rfl) (o := 0) (off := 2) rfl (Cut.one Try.isAgg3 rfl)) rfl ?_
                  refine O.gq (t := 94) rfl rfl h71 rfl (Pu.qt (Pu.move rfl)) rfl ?_
                  refine O.gq (t := 94) rfl rfl h71 rfl (Pu.qt (Pu.eql rfl rfl)) rfl ?_
                  refine O.gq (t := 90) rfl rfl rfl rfl (Pu.qt (Pu.pickT rfl h71 rfl)) rfl ?_
                  refine O.p (Pu.pickF rfl rfl rfl) rfl ?_
                  refine O.p (Pu.assign rfl) rfl ?_
                  refine O.nil ?_
                  exact J.cutEnd (decide (e12.job = other)) (show ((decide (e12.job = other)) = false → Wt.ofJ y other = Wt.ofJ x other) from (fun h_ => by first | (cases h_; done) | exact hsame (fun q_ => by first | omega | (have h4_ := of_decide_eq_false h_; omega)) (fun q_ => by first | omega | (have h3_ := q_.2; simp [h3_] at *)) (fun q_ => by first | omega | (have h4_ := of_decide_eq_false h_; omega)))) ⟨rfl, rfl, rfl, rfl, rfl, rfl, rfl, trivial⟩ [0, 1, 2, 3] (by decide) rfl
                ·
                  have p73 := of_decide_eq_false h71
                  refine O.gskip (t := 94) rfl rfl (no_bool (by rw [h71]; decide)) rfl rfl ?_
                  refine O.gskip (t := 94) rfl rfl (no_bool (by rw [h71]; decide)) rfl rfl ?_
                  refine O.gskip (t := 94) rfl rfl (no_bool (by rw [h71]; decide)) rfl rfl ?_
                  refine O.gskip (t := 94) rfl rfl (no_bool (by rw [h71]; decide)) rfl rfl ?_
                  refine O.gq (t := 90) rfl rfl rfl rfl (Pu.qt (Pu.pickF rfl h71 rfl)) rfl ?_
                  refine O.p (Pu.pickF rfl rfl rfl) rfl ?_
                  refine O.p (Pu.assign rfl) rfl ?_
                  refine O.nil ?_
                  exact J.cutEnd false (show (false = false → Wt.ofJ y other = Wt.ofJ x other) from (fun h_ => by first | (cases h_; done) | exact hsame (fun q_ => by first | omega | (have h4_ := of_decide_eq_false h_; omega)) (fun q_ => by first | omega | (have h3_ := q_.2; simp [h3_] at *)) (fun q_ => by first | omega | (have h4_ := of_decide_eq_false h_; omega)))) ⟨rfl, rfl, rfl, rfl, rfl, rfl, rfl, trivial⟩ [0, 1, 2, 3] (by decide) rfl
        ·
          refine J.block ?_
          refine J.seq ?_
          refine J.region ?_
          refine O.p (Pu.eql rfl rfl) rfl ?_
          refine O.p (Pu.assign rfl) rfl ?_
          refine O.nil ?_
          refine J.cond rfl (fun h74 => ?_) (fun h74 => ?_)
          ·
            have p75 := of_decide_eq_true h74
            refine J.seq ?_
            refine J.region ?_
            refine O.p (Pu.move rfl) rfl ?_
            refine O.p (Pu.fieldAddr (off' := 1) Try.runUnderlying44 rfl Try.sizeOf3 rfl rfl rfl) rfl ?_
            refine O.q (Qt.ld rfl (Cel.var 1 rfl) (o := 0) (off := 1) rfl (Cut.one Try.isAgg3 rfl)) rfl ?_
            refine O.p (Pu.fieldAddr (off' := 2) Try.runUnderlying44 rfl Try.sizeOf3 rfl rfl rfl) rfl ?_
            refine O.q (Qt.ld rfl (Cel.var 1 rfl) (o := 0) (off := 2) rfl (Cut.one Try.isAgg3 rfl)) rfl ?_
            refine O.l (Lo.call [.pointer (some ⟨p5, 0, none⟩), .int .i64 e12.call, .int .i64 e12.job] (by exact Try.call20) rfl (wt_AddIs p5 s x hR e12.call e12.job h15) [2] [0, 1] (by decide) rfl [row v14 3 1 ((Wt.ofJ x other).map encZ), var g13 [.int .i64 e12.kind, .int .i64 e12.call, .int .i64 e12.job] 44] rfl RoOk.nil) rfl ?_
            rintro _ _ ⟨_, ⟨rfl, s76, hR77, rfl⟩, rfl⟩
            have hns76 : x.length ≤ x.length + 1 := by first | omega | exact Nat.le_of_eq Wt.ins_len | exact Nat.le_succ_of_le Wt.without_len | exact Nat.le_succ_of_le Wt.drop_len | (simp; done) | (unfold Wt.add; split <;> first | omega | exact Nat.le_of_eq Wt.ins_len)
            refine O.p (Pu.move rfl) rfl ?_
            refine O.p (Pu.beql Try.underlying4 rfl rfl) rfl ?_
            refine O.nil ?_
            refine J.condF rfl (by decide) ?_
            refine J.skip ?_
            refine J.blk ?_
            exact J.cutEnd ⟨s76, x⟩ (show Wt.Rep x s76 ∧ x.length ≤ i + 1 ∧ (¬(e12.kind = 0 ∧ e12.job = other) → ¬(e12.kind = 1 ∧ Wt.jobOf x e12.call = some other) → ¬(e12.kind = 2 ∧ e12.job = other) → Wt.ofJ x other = Wt.ofJ x other) from ⟨hR77, (by first | omega | (refine Nat.le_trans Wt.ofJ_len ?_; omega)), fun h0_ h1_ h2_ => rfl⟩) ⟨rfl, rfl, rfl, rfl, rfl, rfl, rfl, rfl, trivial⟩ [0, 1, 2] (by decide) rfl
          ·
            have p79 := of_decide_eq_false h74
            refine J.seq ?_
            refine J.region ?_
            refine O.p (Pu.eql rfl rfl) rfl ?_
            refine O.p (Pu.assign rfl) rfl ?_
            refine O.nil ?_
            refine J.cond rfl (fun h80 => ?_) (fun h80 => ?_)
            ·
              have p81 := of_decide_eq_true h80
              refine J.region ?_
              refine O.p (Pu.move rfl) rfl ?_
              refine O.p (Pu.fieldAddr (off' := 1) Try.runUnderlying44 rfl Try.sizeOf3 rfl rfl rfl) rfl ?_
              refine O.q (Qt.ld rfl (Cel.var 1 rfl) (o := 0) (off := 1) rfl (Cut.one Try.isAgg3 rfl)) rfl ?_
              refine O.l (Lo.call [.pointer (some ⟨p5, 0, none⟩), .int .i64 e12.call] (by exact Try.call21) rfl (wt_Take p5 s x hR e12.call) [2] [0, 1] (by decide) rfl [row v14 3 1 ((Wt.ofJ x other).map encZ), var g13 [.int .i64 e12.kind, .int .i64 e12.call, .int .i64 e12.job] 44] rfl RoOk.nil) rfl ?_
              rintro _ _ ⟨_, ⟨rfl, s82, hR83, rfl⟩, rfl⟩
              have hns82 : (Wt.without x e12.call).length ≤ x.length + 1 := by first | omega | exact Nat.le_of_eq Wt.ins_len | exact Nat.le_succ_of_le Wt.without_len | exact Nat.le_succ_of_le Wt.drop_len | (simp; done) | (unfold Wt.add; split <;> first | omega | exact Nat.le_of_eq Wt.ins_len)
              refine O.nil ?_
              refine J.blk ?_
              exact J.cutEnd ⟨s82, Wt.without x e12.call⟩ (show Wt.Rep (Wt.without x e12.call) s82 ∧ (Wt.without x e12.call).length ≤ i + 1 ∧ (¬(e12.kind = 0 ∧ e12.job = other) → ¬(e12.kind = 1 ∧ Wt.jobOf x e12.call = some other) → ¬(e12.kind = 2 ∧ e12.job = other) → Wt.ofJ (Wt.without x e12.call) other = Wt.ofJ x other) from ⟨hR83, (by first | omega | (refine Nat.le_trans Wt.ofJ_len ?_; omega)), fun h0_ h1_ h2_ => Wt.ofJ_without hR.up (fun h_ => h1_ ⟨by assumption, h_⟩)⟩) ⟨rfl, rfl, rfl, rfl, rfl, rfl, rfl, rfl, trivial⟩ [0, 1, 2] (by decide) rfl
            ·
              have p85 := of_decide_eq_false h80
              refine J.seq ?_
              refine J.region ?_
              refine O.p (Pu.eql rfl rfl) rfl ?_
              refine O.p (Pu.assign rfl) rfl ?_
              refine O.nil ?_
              refine J.cond rfl (fun h86 => ?_) (fun h86 => ?_)
              ·
                have p87 := of_decide_eq_true h86
                refine J.region ?_
                refine O.p (Pu.move rfl) rfl ?_
                refine O.p (Pu.fieldAddr (off' := 2) Try.runUnderlying44 rfl Try.sizeOf3 rfl rfl rfl) rfl ?_
                refine O.q (Qt.ld rfl (Cel.var 1 rfl) (o := 0) (off := 2) rfl (Cut.one Try.isAgg3 rfl)) rfl ?_
                refine O.l (Lo.call [.pointer (some ⟨p5, 0, none⟩), .int .i64 e12.job] (by exact Try.call22) rfl (wt_Drop p5 s x hR e12.job (by first | omega | (refine Nat.le_trans Wt.ofJ_len ?_; omega))) [2] [0, 1] (by decide) rfl [row v14 3 1 ((Wt.ofJ x other).map encZ), var g13 [.int .i64 e12.kind, .int .i64 e12.call, .int .i64 e12.job] 44] rfl RoOk.nil) rfl ?_
                rintro v90 _ ⟨_, ⟨s88, hR89, rfl⟩, rfl⟩
                have hns88 : (Wt.drop x e12.job).length ≤ x.length + 1 := by first | omega | exact Nat.le_of_eq Wt.ins_len | exact Nat.le_succ_of_le Wt.without_len | exact Nat.le_succ_of_le Wt.drop_len | (simp; done) | (unfold Wt.add; split <;> first | omega | exact Nat.le_of_eq Wt.ins_len)
                refine O.nil ?_
                refine J.blk ?_
                exact J.cutEnd ⟨s88, Wt.drop x e12.job⟩ (show Wt.Rep (Wt.drop x e12.job) s88 ∧ (Wt.drop x e12.job).length ≤ i + 1 ∧ (¬(e12.kind = 0 ∧ e12.job = other) → ¬(e12.kind = 1 ∧ Wt.jobOf x e12.call = some other) → ¬(e12.kind = 2 ∧ e12.job = other) → Wt.ofJ (Wt.drop x e12.job) other = Wt.ofJ x other) from ⟨hR89, (by first | omega | (refine Nat.le_trans Wt.ofJ_len ?_; omega)), fun h0_ h1_ h2_ => Wt.ofJ_drop (fun h_ => h2_ ⟨by assumption, h_⟩)⟩) ⟨rfl, rfl, rfl, rfl, rfl, rfl, rfl, rfl, trivial⟩ [1, 2, 3] (by decide) rfl
              ·
                have p91 := of_decide_eq_false h86
                refine J.skip ?_
                refine J.blk ?_
                exact J.cutEnd ⟨s, x⟩ (show Wt.Rep x s ∧ x.length ≤ i + 1 ∧ (¬(e12.kind = 0 ∧ e12.job = other) → ¬(e12.kind = 1 ∧ Wt.jobOf x e12.call = some other) → ¬(e12.kind = 2 ∧ e12.job = other) → Wt.ofJ x other = Wt.ofJ x other) from ⟨hR, (by first | omega | (refine Nat.le_trans Wt.ofJ_len ?_; omega)), fun h0_ h1_ h2_ => rfl⟩) ⟨rfl, rfl, rfl, rfl, rfl, rfl, rfl, rfl, trivial⟩ [2, 0, 1] (by decide) rfl
      ·
        refine J.region ?_
        refine O.p (Pu.move rfl) rfl ?_
        refine O.p (Pu.fieldAddr (off' := 1) Try.runUnderlying44 rfl Try.sizeOf3 rfl rfl rfl) rfl ?_
        refine O.q (Qt.ld rfl (Cel.var 1 rfl) (o := 0) (off := 1) rfl (Cut.one Try.isAgg3 rfl)) rfl ?_
        refine O.l (Lo.call [.pointer (some ⟨p5, 0, none⟩), .int .i64 e12.call] (by exact Try.call19) rfl (wt_JobNo p5 s x hR e12.call h15) [] [0, 1, 2] (by decide) rfl [row v14 3 1 ((Wt.ofJ x other).map encZ), var g13 [.int .i64 e12.kind, .int .i64 e12.call, .int .i64 e12.job] 44, wt 62 p5 s] rfl (RoOk.of 2 rfl same_rd [] (by decide) rfl RoOk.nil)) rfl ?_
        rintro _ _ ⟨_, ⟨rfl, rfl⟩, rfl⟩
        refine O.p (Pu.move rfl) rfl ?_
        refine O.p (Pu.extract rfl rfl) rfl ?_
        refine O.p (Pu.extract rfl rfl) rfl ?_
        refine O.p (Pu.assign rfl) rfl ?_
        refine O.p (Pu.assign rfl) rfl ?_
        refine O.nil ?_
        refine J.seq ?_
        refine J.seq ?_
        refine J.region ?_
        refine O.p (Pu.fieldAddr (off' := 0) Try.runUnderlying44 rfl Try.sizeOf3 rfl rfl rfl) rfl ?_
        refine O.q (Qt.ld rfl (Cel.var 1 rfl) (o := 0) (off := 0) rfl (Cut.one Try.isAgg3 rfl)) rfl ?_
        refine O.nil ?_
        refine J.cutK (X := Ws × List Pr) (fun ξ => Wt.Rep ξ.2 ξ.1 ∧ ξ.2.length ≤ i + 1 ∧ (¬(e12.kind = 0 ∧ e12.job = other) → ¬(e12.kind = 1 ∧ Wt.jobOf x e12.call = some other) → ¬(e12.kind = 2 ∧ e12.job = other) → Wt.ofJ ξ.2 other = Wt.ofJ x other)) (fun ξ => [(0, lv), (1, .int .i64 other), (5, .pointer (some ⟨p5, 0, none⟩)), (6, .int .i64 (i : Int)), (7, .pointer (some ⟨g13, 0, none⟩)), (8, v14), (9, .int .i64 ((Wt.jobOf x e12.call).getD 0)), (10, .bool false)]) (fun ξ => [wt 62 p5 ξ.1, row v14 3 1 ((Wt.ofJ x other).map encZ), var g13 [.int .i64 e12.kind, .int .i64 e12.call, .int .i64 e12.job] 44]) ?_ ?_
        ·
          rintro ⟨s2, y⟩ hq93
          obtain ⟨hR2, hy2, hsame⟩ : Wt.Rep y s2 ∧ y.length ≤ i + 1 ∧ (¬(e12.kind = 0 ∧ e12.job = other) → ¬(e12.kind = 1 ∧ Wt.jobOf x e12.call = some other) → ¬(e12.kind = 2 ∧ e12.job = other) → Wt.ofJ y other = Wt.ofJ x other) := hq93
          show J _ _ [(0, lv), (1, .int .i64 other), (5, .pointer (some ⟨p5, 0, none⟩)), (6, .int .i64 (i : Int)), (7, .pointer (some ⟨g13, 0, none⟩)), (8, v14), (9, .int .i64 ((Wt.jobOf x e12.call).getD 0)), (10, .bool false)] [wt 62 p5 s2, row v14 3 1 ((Wt.ofJ x other).map encZ), var g13 [.int .i64 e12.kind, .int .i64 e12.call, .int .i64 e12.job] 44]
          refine J.seq ?_
          refine J.region ?_
          refine O.p (Pu.move rfl) rfl ?_
          refine O.p (Pu.move rfl) rfl ?_
          refine O.l (Lo.call [.pointer (some ⟨p5, 0, none⟩), .int .i64 other] (by exact Try.call18) rfl (wt_Of p5 s2 y hR2 other (by first | omega | (refine Nat.le_trans Wt.ofJ_len ?_; omega))) [] [0, 1, 2] (by decide) rfl [wt 62 p5 s2, row v14 3 1 ((Wt.ofJ x other).map encZ), var g13 [.int .i64 e12.kind, .int .i64 e12.call, .int .i64 e12.job] 44] rfl (RoOk.of 0 rfl same_rd [] (by decide) rfl RoOk.nil)) rfl ?_
          rintro v94 _ ⟨_, rfl, rfl⟩
          refine O.p (Pu.assign rfl) rfl ?_
          refine O.nil ?_
          refine J.seq ?_
          refine J.cutK (X := Bool) (fun ξ => (ξ = false → Wt.ofJ y other = Wt.ofJ x other)) (fun ξ => [(0, lv), (1, .int .i64 other), (5, .pointer (some ⟨p5, 0, none⟩)), (6, .int .i64 (i : Int)), (8, v14), (11, v94), (12, .bool ξ)]) (fun ξ => [row v94 3 1 ((Wt.ofJ y other).map encZ), wt 62 p5 s2, row v14 3 1 ((Wt.ofJ x other).map encZ), var g13 [.int .i64 e12.kind, .int .i64 e12.call, .int .i64 e12.job] 44]) ?_ ?_
          ·
            rintro tb hq95
            have hsam : (tb = false → Wt.ofJ y other = Wt.ofJ x other) := hq95
            show J _ _ [(0, lv), (1, .int .i64 other), (5, .pointer (some ⟨p5, 0, none⟩)), (6, .int .i64 (i : Int)), (8, v14), (11, v94), (12, .bool tb)] [row v94 3 1 ((Wt.ofJ y other).map encZ), wt 62 p5 s2, row v14 3 1 ((Wt.ofJ x other).map encZ), var g13 [.int .i64 e12.kind, .int .i64 e12.call, .int .i64 e12.job] 44]
            refine J.seq ?_
            refine J.seq ?_
            refine J.region ?_
            refine O.p (Pu.move rfl) rfl ?_
            refine O.p (Pu.not rfl) rfl ?_
            refine O.p (Pu.move rfl) rfl ?_
            refine by_bool (!tb) (fun h96 => ?_) (fun h96 => ?_)
            ·
              have h97 : tb = false := not_flip h96
              refine O.gq (t := 103) rfl rfl h96 rfl (Pu.qt (Pu.move rfl)) rfl ?_
              refine O.gq (t := 103) rfl rfl h96 rfl (Pu.qt (Pu.move rfl)) rfl ?_
              refine O.gl (t := 103) rfl rfl h96 rfl (Lo.call [v94, v14] (by exact Try.call23) rfl (n01_Same v94 v14 (Wt.ofJ y other) (Wt.ofJ x other) (by first | omega | (refine Nat.le_trans Wt.ofJ_len ?_; omega)) (by first | omega | (refine Nat.le_trans Wt.ofJ_len ?_; omega))) [] [0, 1, 2, 3] (by decide) rfl [row v94 3 1 ((Wt.ofJ y other).map encZ), wt 62 p5 s2, row v14 3 1 ((Wt.ofJ x other).map encZ), var g13 [.int .i64 e12.kind, .int .i64 e12.call, .int .i64 e12.job] 44] rfl (RoOk.of 0 rfl row_rd [] (by decide) rfl (RoOk.of 2 rfl row_rd [] (by decide) rfl RoOk.nil))) rfl ?_
              rintro _ _ ⟨_, ⟨rfl, rfl⟩, rfl⟩
              refine O.gq (t := 103) rfl rfl h96 rfl (Pu.qt (Pu.not rfl)) rfl ?_
              refine O.p (Pu.pickT rfl h96 rfl) rfl ?_
              refine O.nil ?_
              refine J.condF rfl (not_of_true (decide_eq_true (hsam h97))) ?_
              refine J.skip ?_
              refine J.seq ?_
              refine J.region ?_
              refine O.p (Pu.assign rfl) rfl ?_
              refine O.nil ?_
              refine J.block ?_
              refine J.loop (X := Nat) (fun ξ => ξ ≤ (Wt.ofJ y other).length ∧ (Wt.ofJ y other).length ≤ 100000) (fun ξ => [(0, lv), (1, .int .i64 other), (5, .pointer (some ⟨p5, 0, none⟩)), (6, .int .i64 (i : Int)), (11, v94), (13, .int .i64 (ξ : Int))]) (fun ξ => [wt 62 p5 s2, row v94 3 1 ((Wt.ofJ y other).map encZ)]) (fun ξ => (Wt.ofJ y other).length - ξ) 0 (show 0 ≤ (Wt.ofJ y other).length ∧ (Wt.ofJ y other).length ≤ 100000 from ⟨by omega, by first | omega | (refine Nat.le_trans Wt.ofJ_len ?_; omega)⟩) ⟨rfl, rfl, rfl, rfl, rfl, (congrArg (fun z => some (Value.int .i64 z)) (by first | rfl | omega : (0 : Int) = (0 : Int))), trivial⟩ [1, 0] (by decide) rfl ?_
              rintro q hq99
              obtain ⟨hq, hql⟩ : q ≤ (Wt.ofJ y other).length ∧ (Wt.ofJ y other).length ≤ 100000 := hq99
              show J _ _ [(0, lv), (1, .int .i64 other), (5, .pointer (some ⟨p5, 0, none⟩)), (6, .int .i64 (i : Int)), (11, v94), (13, .int .i64 (q : Int))] [wt 62 p5 s2, row v94 3 1 ((Wt.ofJ y other).map encZ)]
              refine J.seq ?_
              refine J.seq ?_
              refine J.region ?_
              refine O.p (Pu.move rfl) rfl ?_
              refine O.p (Pu.move rfl) rfl ?_
              refine O.q (Qt.lenM Try.runUnderlying24 rfl (Src.row 1 rfl)) rfl ?_
              refine O.p (Pu.lss rfl rfl) rfl ?_
              refine O.nil ?_
              refine J.cond rfl (fun h100 => ?_) (fun h100 => ?_)
              ·
                have p101 := of_decide_eq_true h100
                refine J.skip ?_
                refine J.seq ?_
                refine J.block ?_
                refine J.seq ?_
                refine J.region ?_
                refine O.p (Pu.move rfl) rfl ?_
                refine O.p (Pu.move rfl) rfl ?_
                refine O.p (Pu.move rfl) rfl ?_
                obtain ⟨e102, he102⟩ : ∃ x_, (Wt.ofJ y other)[q]? = some x_ := ⟨_, List.getElem?_eq_getElem (by omega)⟩
                refine O.q (Qt.idxM Try.runUnderlying24 Try.sizeOf3 rfl (Src.row 1 rfl) rfl (by omega) (by omega)) rfl ?_
                refine O.q (Qt.ld rfl (Cel.eltM (Src.row 1 rfl) he102) (o := (voff v94 + q * 1)) (off := 0) (by omega) (Cut.one Try.isAgg3 rfl)) rfl ?_
                refine O.l (Lo.call [.pointer (some ⟨p5, 0, none⟩), .int .i64 e102] (by exact Try.call19) rfl (wt_JobOne p5 s2 y hR2 e102 other ((Wt.mem_ofJ (Wt.Rep.up hR2)).1 (List.mem_of_getElem? he102))) [] [0, 1] (by decide) rfl [wt 62 p5 s2, row v94 3 1 ((Wt.ofJ y other).map encZ)] rfl (RoOk.of 0 rfl same_rd [] (by decide) rfl RoOk.nil)) rfl ?_
                rintro _ _ ⟨_, ⟨rfl, rfl⟩, rfl⟩
                refine O.p (Pu.move rfl) rfl ?_
                refine O.p (Pu.extract rfl rfl) rfl ?_
                refine O.p (Pu.extract rfl rfl) rfl ?_
                refine O.p (Pu.assign rfl) rfl ?_
                refine O.p (Pu.assign rfl) rfl ?_
                refine O.nil ?_
                refine J.seq ?_
                refine J.drawStill Try.mixed (by kernel_rfl) ?_
                refine S.p (Pu.move rfl) rfl ?_
                refine S.p (Pu.move rfl) rfl ?_
                refine S.p (Pu.neq rfl rfl) rfl ?_
                refine S.p (Pu.move rfl) rfl ?_
                refine S.gq (t := 127) rfl rfl (by simp) rfl (Pu.qt (Pu.move rfl)) rfl ?_
                refine S.gq (t := 127) rfl rfl (by simp) rfl (Pu.qt (Pu.not rfl)) rfl ?_
                refine S.p (Pu.pickF rfl (by simp) rfl) rfl ?_
                refine S.p (Pu.move rfl) rfl ?_
                refine S.gq (t := 131) rfl rfl rfl rfl (Pu.qt (Pu.move rfl)) rfl ?_
                refine S.gq (t := 131) rfl rfl rfl rfl (Pu.qt (Pu.gtr rfl rfl)) rfl ?_
                refine S.gq (t := 131) rfl rfl rfl rfl (Pu.qt (Pu.move rfl)) rfl ?_
                refine by_bool (decide (0 < (q : Int))) (fun h104 => ?_) (fun h104 => ?_)
                ·
                  have p105 := of_decide_eq_true h104
                  refine S.gq (t := 134) rfl rfl h104 rfl (Pu.qt (Pu.move rfl)) rfl ?_
                  refine S.gq (t := 134) rfl rfl h104 rfl (Pu.qt (Pu.move rfl)) rfl ?_
                  refine S.gq (t := 134) rfl rfl h104 rfl (Qt.idxM Try.runUnderlying24 Try.sizeOf3 rfl (Src.row 1 rfl) rfl (by omega) (by omega)) rfl ?_
                  refine S.gq (t := 134) rfl rfl h104 rfl (Qt.ld rfl (Cel.eltM (Src.row 1 rfl) he102) (o := (voff v94 + q * 1)) (off := 0) (by omega) (Cut.one Try.isAgg3 rfl)) rfl ?_
                  refine S.gq (t := 134) rfl rfl h104 rfl (Pu.qt (Pu.move rfl)) rfl ?_
                  refine S.gq (t := 134) rfl rfl h104 rfl (Pu.qt (Pu.move rfl)) rfl ?_
                  refine S.gq (t := 134) rfl rfl h104 rfl (Pu.qt (Pu.sub' rfl rfl (by first | omega | (have h_ := Wt.ofJ_len (l := x) (j := other); omega)))) rfl ?_
                  obtain ⟨e106, he106⟩ : ∃ x_, (Wt.ofJ y other)[(q - 1)]? = some x_ := ⟨_, List.getElem?_eq_getElem (by omega)⟩
                  refine S.gq (t := 134) rfl rfl h104 rfl (Qt.idxM Try.runUnderlying24 Try.sizeOf3 rfl (Src.row 1 rfl) rfl (by omega) (by omega)) rfl ?_
                  refine S.gq (t := 134) rfl rfl h104 rfl (Qt.ld rfl (Cel.eltM (Src.row 1 rfl) he106) (o := (voff v94 + (q - 1) * 1)) (off := 0) (by omega) (Cut.one Try.isAgg3 rfl)) rfl ?_
                  refine S.gq (t := 134) rfl rfl h104 rfl (Pu.qt (Pu.leq rfl rfl)) rfl ?_
                  refine S.gq (t := 131) rfl rfl rfl rfl (Pu.qt (Pu.pickT rfl h104 rfl)) rfl ?_
                  refine S.p (Pu.pickF rfl rfl rfl) rfl ?_
                  refine S.endJ ?_
                  refine J.condF rfl (decide_eq_false (by have h_ := Wt.up_at (Wt.up_ofJ (Wt.Rep.up hR2)) he106 he102 (by omega); omega)) ?_
                  refine J.skip ?_
                  refine J.blk ?_
                  refine J.region ?_
                  refine O.p (Pu.move rfl) rfl ?_
                  refine O.p (Pu.add' rfl rfl (by first | omega | (have h_ := Wt.ofJ_len (l := x) (j := other); omega))) rfl ?_
                  refine O.p (Pu.assign rfl) rfl ?_
                  refine O.nil ?_
                  exact J.lp (q + 1) (show (q + 1) ≤ (Wt.ofJ y other).length ∧ (Wt.ofJ y other).length ≤ 100000 from ⟨by omega, hql⟩) (show (Wt.ofJ y other).length - (q + 1) < (Wt.ofJ y other).length - q from (by omega)) ⟨rfl, rfl, rfl, rfl, rfl, (congrArg (fun z => some (Value.int .i64 z)) (by first | rfl | omega : ((q : Int) + 1 : Int) = ((q + 1) : Int))), trivial⟩ [0, 1] (by decide) rfl
                ·
                  have p107 := of_decide_eq_false h104
                  refine S.gskip (t := 134) rfl rfl (no_bool (by rw [h104]; decide)) rfl rfl ?_
                  refine S.gskip (t := 134) rfl rfl (no_bool (by rw [h104]; decide)) rfl rfl ?_
                  refine S.gskip (t := 134) rfl rfl (no_bool (by rw [h104]; decide)) rfl rfl ?_
                  refine S.gskip (t := 134) rfl rfl (no_bool (by rw [h104]; decide)) rfl rfl ?_
                  refine S.gskip (t := 134) rfl rfl (no_bool (by rw [h104]; decide)) rfl rfl ?_
                  refine S.gskip (t := 134) rfl rfl (no_bool (by rw [h104]; decide)) rfl rfl ?_
                  refine S.gskip (t := 134) rfl rfl (no_bool (by rw [h104]; decide)) rfl rfl ?_
                  refine S.gskip (t := 134) rfl rfl (no_bool (by rw [h104]; decide)) rfl rfl ?_
                  refine S.gskip (t := 134) rfl rfl (no_bool (by rw [h104]; decide)) rfl rfl ?_
                  refine S.gskip (t := 134) rfl rfl (no_bool (by rw [h104]; decide)) rfl rfl ?_
                  refine S.gq (t := 131) rfl rfl rfl rfl (Pu.qt (Pu.pickF rfl h104 rfl)) rfl ?_
                  refine S.p (Pu.pickF rfl rfl rfl) rfl ?_
                  refine S.endJ ?_
                  refine J.condF rfl rfl ?_
                  refine J.skip ?_
                  refine J.blk ?_
                  refine J.region ?_
                  refine O.p (Pu.move rfl) rfl ?_
                  refine O.p (Pu.add' rfl rfl (by first | omega | (have h_ := Wt.ofJ_len (l := x) (j := other); omega))) rfl ?_
                  refine O.p (Pu.assign rfl) rfl ?_
                  refine O.nil ?_
                  exact J.lp (q + 1) (show (q + 1) ≤ (Wt.ofJ y other).length ∧ (Wt.ofJ y other).length ≤ 100000 from ⟨by omega, hql⟩) (show (Wt.ofJ y other).length - (q + 1) < (Wt.ofJ y other).length - q from (by omega)) ⟨rfl, rfl, rfl, rfl, rfl, (congrArg (fun z => some (Value.int .i64 z)) (by first | rfl | omega : ((q : Int) + 1 : Int) = ((q + 1) : Int))), trivial⟩ [0, 1] (by decide) rfl
              ·
                have p108 := of_decide_eq_false h100
                refine J.exit _ rfl ?_
                refine J.blk ?_
                refine J.region ?_
                refine O.p (Pu.move rfl) rfl ?_
                refine O.p (Pu.add' rfl rfl (by first | omega | (have h_ := Wt.ofJ_len (l := x) (j := other); omega))) rfl ?_
                refine O.p (Pu.assign rfl) rfl ?_
                refine O.nil ?_
                exact J.lp ⟨i + 1, s2, y⟩ (show (i + 1) ≤ l.length ∧ Wt.Rep y s2 ∧ y.length ≤ (i + 1) from ⟨by omega, hR2, (by first | omega | (refine Nat.le_trans Wt.ofJ_len ?_; omega))⟩) (show l.length - (i + 1) < l.length - i from (by omega)) ⟨rfl, rfl, rfl, (congrArg (fun z => some (Value.int .i64 z)) (by first | rfl | omega : ((i : Int) + 1 : Int) = ((i + 1) : Int))), trivial⟩ [0] (by decide) rfl
            ·
              have h109 : tb = true := not_flip h96
              refine O.gskip (t := 103) rfl rfl (no_bool (by rw [h96]; decide)) rfl rfl ?_
              refine O.gskip (t := 103) rfl rfl (no_bool (by rw [h96]; decide)) rfl rfl ?_
              refine O.gskip (t := 103) rfl rfl (no_bool (by rw [h96]; decide)) rfl rfl ?_
              refine O.gskip (t := 103) rfl rfl (no_bool (by rw [h96]; decide)) rfl rfl ?_
              refine O.p (Pu.pickF rfl h96 rfl) rfl ?_
              refine O.nil ?_
              refine J.condF rfl rfl ?_
              refine J.skip ?_
              refine J.seq ?_
              refine J.region ?_
              refine O.p (Pu.assign rfl) rfl ?_
              refine O.nil ?_
              refine J.block ?_
              refine J.loop (X := Nat) (fun ξ => ξ ≤ (Wt.ofJ y other).length ∧ (Wt.ofJ y other).length ≤ 100000) (fun ξ => [(0, lv), (1, .int .i64 other), (5, .pointer (some ⟨p5, 0, none⟩)), (6, .int .i64 (i : Int)), (11, v94), (13, .int .i64 (ξ : Int))]) (fun ξ => [wt 62 p5 s2, row v94 3 1 ((Wt.ofJ y other).map encZ)]) (fun ξ => (Wt.ofJ y other).length - ξ) 0 (show 0 ≤ (Wt.ofJ y other).length ∧ (Wt.ofJ y other).length ≤ 100000 from ⟨by omega, by first | omega | (refine Nat.le_trans Wt.ofJ_len ?_; omega)⟩) ⟨rfl, rfl, rfl, rfl, rfl, (congrArg (fun z => some (Value.int .i64 z)) (by first | rfl | omega : (0 : Int) = (0 : Int))), trivial⟩ [1, 0] (by decide) rfl ?_
              rintro q hq110
              obtain ⟨hq, hql⟩ : q ≤ (Wt.ofJ y other).length ∧ (Wt.ofJ y other).length ≤ 100000 := hq110
              show J _ _ [(0, lv), (1, .int .i64 other), (5, .pointer (some ⟨p5, 0, none⟩)), (6, .int .i64 (i : Int)), (11, v94), (13, .int .i64 (q : Int))] [wt 62 p5 s2, row v94 3 1 ((Wt.ofJ y other).map encZ)]
              refine J.seq ?_
              refine J.seq ?_
              refine J.region ?_
              refine O.p (Pu.move rfl) rfl ?_
              refine O.p (Pu.move rfl) rfl ?_
              refine O.q (Qt.lenM Try.runUnderlying24 rfl (Src.row 1 rfl)) rfl ?_
              refine O.p (Pu.lss rfl rfl) rfl ?_
              refine O.nil ?_
              refine J.cond rfl (fun h111 => ?_) (fun h111 => ?_)
              ·
                have p112 := of_decide_eq_true h111
                refine J.skip ?_
                refine J.seq ?_
                refine J.block ?_
                refine J.seq ?_
                refine J.region ?_
                refine O.p (Pu.move rfl) rfl ?_
                refine O.p (Pu.move rfl) rfl ?_
                refine O.p (Pu.move rfl) rfl ?_
                obtain ⟨e113, he113⟩ : ∃ x_, (Wt.ofJ y other)[q]? = some x_ := ⟨_, List.getElem?_eq_getElem (by omega)⟩
                refine O.q (Qt.idxM Try.runUnderlying24 Try.sizeOf3 rfl (Src.row 1 rfl) rfl (by omega) (by omega)) rfl ?_
                refine O.q (Qt.ld rfl (Cel.eltM (Src.row 1 rfl) he113) (o := (voff v94 + q * 1)) (off := 0) (by omega) (Cut.one Try.isAgg3 rfl)) rfl ?_
                refine O.l (Lo.call [.pointer (some ⟨p5, 0, none⟩), .int .i64 e113] (by exact Try.call19) rfl (wt_JobOne p5 s2 y hR2 e113 other ((Wt.mem_ofJ (Wt.Rep.up hR2)).1 (List.mem_of_getElem? he113))) [] [0, 1] (by decide) rfl [wt 62 p5 s2, row v94 3 1 ((Wt.ofJ y other).map encZ)] rfl (RoOk.of 0 rfl same_rd [] (by decide) rfl RoOk.nil)) rfl ?_
                rintro _ _ ⟨_, ⟨rfl, rfl⟩, rfl⟩
                refine O.p (Pu.move rfl) rfl ?_
                refine O.p (Pu.extract rfl rfl) rfl ?_
                refine O.p (Pu.extract rfl rfl) rfl ?_
                refine O.p (Pu.assign rfl) rfl ?_
                refine O.p (Pu.assign rfl) rfl ?_
                refine O.nil ?_
                refine J.seq ?_
                refine J.drawStill Try.mixed (by kernel_rfl) ?_
                refine S.p (Pu.move rfl) rfl ?_
                refine S.p (Pu.move rfl) rfl ?_
                refine S.p (Pu.neq rfl rfl) rfl ?_
                refine S.p (Pu.move rfl) rfl ?_
                refine S.gq (t := 127) rfl rfl (by simp) rfl (Pu.qt (Pu.move rfl)) rfl ?_
                refine S.gq (t := 127) rfl rfl (by simp) rfl (Pu.qt (Pu.not rfl)) rfl ?_
                refine S.p (Pu.pickF rfl (by simp) rfl) rfl ?_
                refine S.p (Pu.move rfl) rfl ?_
                refine S.gq (t := 131) rfl rfl rfl rfl (Pu.qt (Pu.move rfl)) rfl ?_
                refine S.gq (t := 131) rfl rfl rfl rfl (Pu.qt (Pu.gtr rfl rfl)) rfl ?_
                refine S.gq (t := 131) rfl rfl rfl rfl (Pu.qt (Pu.move rfl)) rfl ?_
                refine by_bool (decide (0 < (q : Int))) (fun h115 => ?_) (fun h115 => ?_)
                ·
                  have p116 := of_decide_eq_true h115
                  refine S.gq (t := 134) rfl rfl h115 rfl (Pu.qt (Pu.move rfl)) rfl ?_
                  refine S.gq (t := 134) rfl rfl h115 rfl (Pu.qt (Pu.move rfl)) rfl ?_
                  refine S.gq (t := 134) rfl rfl h115 rfl (Qt.idxM Try.runUnderlying24 Try.sizeOf3 rfl (Src.row 1 rfl) rfl (by omega) (by omega)) rfl ?_
                  refine S.gq (t := 134) rfl rfl h115 rfl (Qt.ld rfl (Cel.eltM (Src.row 1 rfl) he113) (o := (voff v94 + q * 1)) (off := 0) (by omega) (Cut.one Try.isAgg3 rfl)) rfl ?_
                  refine S.gq (t := 134) rfl rfl h115 rfl (Pu.qt (Pu.move rfl)) rfl ?_
                  refine S.gq (t := 134) rfl rfl h115 rfl (Pu.qt (Pu.move rfl)) rfl ?_
                  refine S.gq (t := 134) rfl rfl h115 rfl (Pu.qt (Pu.sub' rfl rfl (by first | omega | (have h_ := Wt.ofJ_len (l := x) (j := other); omega)))) rfl ?_
                  obtain ⟨e117, he117⟩ : ∃ x_, (Wt.ofJ y other)[(q - 1)]? = some x_ := ⟨_, List.getElem?_eq_getElem (by omega)⟩
                  refine S.gq (t := 134) rfl rfl h115 rfl (Qt.idxM Try.runUnderlying24 Try.sizeOf3 rfl (Src.row 1 rfl) rfl (by omega) (by omega)) rfl ?_
                  refine S.gq (t := 134) rfl rfl h115 rfl (Qt.ld rfl (Cel.eltM (Src.row 1 rfl) he117) (o := (voff v94 + (q - 1) * 1)) (off := 0) (by omega) (Cut.one Try.isAgg3 rfl)) rfl ?_
                  refine S.gq (t := 134) rfl rfl h115 rfl (Pu.qt (Pu.leq rfl rfl)) rfl ?_
                  refine S.gq (t := 131) rfl rfl rfl rfl (Pu.qt (Pu.pickT rfl h115 rfl)) rfl ?_
                  refine S.p (Pu.pickF rfl rfl rfl) rfl ?_
                  refine S.endJ ?_
                  refine J.condF rfl (decide_eq_false (by have h_ := Wt.up_at (Wt.up_ofJ (Wt.Rep.up hR2)) he117 he113 (by omega); omega)) ?_
                  refine J.skip ?_
                  refine J.blk ?_
                  refine J.region ?_
                  refine O.p (Pu.move rfl) rfl ?_
                  refine O.p (Pu.add' rfl rfl (by first | omega | (have h_ := Wt.ofJ_len (l := x) (j := other); omega))) rfl ?_
                  refine O.p (Pu.assign rfl) rfl ?_
                  refine O.nil ?_
                  exact J.lp (q + 1) (show (q + 1) ≤ (Wt.ofJ y other).length ∧ (Wt.ofJ y other).length ≤ 100000 from ⟨by omega, hql⟩) (show (Wt.ofJ y other).length - (q + 1) < (Wt.ofJ y other).length - q from (by omega)) ⟨rfl, rfl, rfl, rfl, rfl, (congrArg (fun z => some (Value.int .i64 z)) (by first | rfl | omega : ((q : Int) + 1 : Int) = ((q + 1) : Int))), trivial⟩ [0, 1] (by decide) rfl
                ·
                  have p118 := of_decide_eq_false h115
                  refine S.gskip (t := 134) rfl rfl (no_bool (by rw [h115]; decide)) rfl rfl ?_
                  refine S.gskip (t := 134) rfl rfl (no_bool (by rw [h115]; decide)) rfl rfl ?_
                  refine S.gskip (t := 134) rfl rfl (no_bool (by rw [h115]; decide)) rfl rfl ?_
                  refine S.gskip (t := 134) rfl rfl (no_bool (by rw [h115]; decide)) rfl rfl ?_
                  refine S.gskip (t := 134) rfl rfl (no_bool (by rw [h115]; decide)) rfl rfl ?_
                  refine S.gskip (t := 134) rfl rfl (no_bool (by rw [h115]; decide)) rfl rfl ?_
                  refine S.gskip (t := 134) rfl rfl (no_bool (by rw [h115]; decide)) rfl rfl ?_
                  refine S.gskip (t := 134) rfl rfl (no_bool (by rw [h115]; decide)) rfl rfl ?_
                  refine S.gskip (t := 134) rfl rfl (no_bool (by rw [h115]; decide)) rfl rfl ?_
                  refine S.gskip (t := 134) rfl rfl (no_bool (by rw [h115]; decide)) rfl rfl ?_
                  refine S.gq (t := 131) rfl rfl rfl rfl (Pu.qt (Pu.pickF rfl h115 rfl)) rfl ?_
                  refine S.p (Pu.pickF rfl rfl rfl) rfl ?_
                  refine S.endJ ?_
                  refine J.condF rfl rfl ?_
                  refine J.skip ?_
                  refine J.blk ?_
                  refine J.region ?_
                  refine O.p (Pu.move rfl) rfl ?_
                  refine O.p (Pu.add' rfl rfl (by first | omega | (have h_ := Wt.ofJ_len (l := x) (j := other); omega))) rfl ?_
                  refine O.p (Pu.assign rfl) rfl ?_
                  refine O.nil ?_
                  exact J.lp (q + 1) (show (q + 1) ≤ (Wt.ofJ y other).length ∧ (Wt.ofJ y other).length ≤ 100000 from ⟨by omega, hql⟩) (show (Wt.ofJ y other).length - (q + 1) < (Wt.ofJ y other).length - q from (by omega)) ⟨rfl, rfl, rfl, rfl, rfl, (congrArg (fun z => some (Value.int .i64 z)) (by first | rfl | omega : ((q : Int) + 1 : Int) = ((q + 1) : Int))), trivial⟩ [0, 1] (by decide) rfl
              ·
                have p119 := of_decide_eq_false h111
                refine J.exit _ rfl ?_
                refine J.blk ?_
                refine J.region ?_
                refine O.p (Pu.move rfl) rfl ?_
                refine O.p (Pu.add' rfl rfl (by first | omega | (have h_ := Wt.ofJ_len (l := x) (j := other); omega))) rfl ?_
                refine O.p (Pu.assign rfl) rfl ?_
                refine O.nil ?_
                exact J.lp ⟨i + 1, s2, y⟩ (show (i + 1) ≤ l.length ∧ Wt.Rep y s2 ∧ y.length ≤ (i + 1) from ⟨by omega, hR2, (by first | omega | (refine Nat.le_trans Wt.ofJ_len ?_; omega))⟩) (show l.length - (i + 1) < l.length - i from (by omega)) ⟨rfl, rfl, rfl, (congrArg (fun z => some (Value.int .i64 z)) (by first | rfl | omega : ((i : Int) + 1 : Int) = ((i + 1) : Int))), trivial⟩ [0] (by decide) rfl
          ·
            refine J.region ?_
            refine O.p (Pu.fieldAddr (off' := 0) Try.runUnderlying44 rfl Try.sizeOf3 rfl rfl rfl) rfl ?_
            refine O.q (Qt.ld rfl (Cel.var 3 rfl) (o := 0) (off := 0) rfl (Cut.one Try.isAgg3 rfl)) rfl ?_
            refine O.p (Pu.eql rfl rfl) rfl ?_
            refine O.p (Pu.move rfl) rfl ?_
            refine by_bool (decide (e12.kind = 0)) (fun h120 => ?_) (fun h120 => ?_)
            ·
              have p121 := of_decide_eq_true h120
              refine O.gq (t := 71) rfl rfl h120 rfl (Pu.qt (Pu.fieldAddr (off' := 2) Try.runUnderlying44 rfl Try.sizeOf3 rfl rfl rfl)) rfl ?_
              refine O.gq (t := 71) rfl rfl h120 rfl (Qt.ld rfl (Cel.var 3 rfl) (o := 0) (off := 2) rfl (Cut.one Try.isAgg3 rfl)) rfl ?_
              refine O.gq (t := 71) rfl rfl h120 rfl (Pu.qt (Pu.move rfl)) rfl ?_
              refine O.gq (t := 71) rfl rfl h120 rfl (Pu.qt (Pu.eql rfl rfl)) rfl ?_
              refine O.p (Pu.pickT rfl h120 rfl) rfl ?_
              refine O.p (Pu.move rfl) rfl ?_
              refine by_bool (decide (e12.job = other)) (fun h122 => ?_) (fun h122 => ?_)
              ·
                have p123 := of_decide_eq_true h122
                refine O.gskip (t := 77) rfl rfl (no_bool (by rw [h122]; decide)) rfl rfl ?_
                refine O.gskip (t := 77) rfl rfl (no_bool (by rw [h122]; decide)) rfl rfl ?_
                refine O.gskip (t := 77) rfl rfl (no_bool (by rw [h122]; decide)) rfl rfl ?_
                refine O.gskip (t := 77) rfl rfl (no_bool (by rw [h122]; decide)) rfl rfl ?_
                refine O.gskip (t := 81) rfl rfl (no_undef _) rfl rfl ?_
                refine O.gskip (t := 77) rfl rfl (no_bool (by rw [h122]; decide)) rfl rfl ?_
                refine O.gskip (t := 77) rfl rfl (no_bool (by rw [h122]; decide)) rfl rfl ?_
                refine O.gskip (t := 84) rfl rfl (no_undef _) rfl rfl ?_
                refine O.gskip (t := 84) rfl rfl (no_undef _) rfl rfl ?_
                refine O.gskip (t := 84) rfl rfl (no_undef _) rfl rfl ?_
                refine O.gskip (t := 77) rfl rfl (no_bool (by rw [h122]; decide)) rfl rfl ?_
                refine O.p (Pu.pickT rfl h122 rfl) rfl ?_
                refine O.p (Pu.move rfl) rfl ?_
                refine O.gskip (t := 90) rfl rfl (no_bool (by decide)) rfl rfl ?_
                refine O.gskip (t := 90) rfl rfl (no_bool (by decide)) rfl rfl ?_
                refine O.gskip (t := 90) rfl rfl (no_bool (by decide)) rfl rfl ?_
                refine O.gskip (t := 90) rfl rfl (no_bool (by decide)) rfl rfl ?_
                refine O.gskip (t := 94) rfl rfl (no_undef _) rfl rfl ?_
                refine O.gskip (t := 94) rfl rfl (no_undef _) rfl rfl ?_
                refine O.gskip (t := 94) rfl rfl (no_undef _) rfl rfl ?_
                refine O.gskip (t := 94) rfl rfl (no_undef _) rfl rfl ?_
                refine O.gskip (t := 90) rfl rfl (no_bool (by decide)) rfl rfl ?_
                refine O.p (Pu.pickT rfl rfl rfl) rfl ?_
                refine O.p (Pu.assign rfl) rfl ?_
                refine O.nil ?_
                exact J.cutEnd true (show (true = false → Wt.ofJ y other = Wt.ofJ x other) from (fun h_ => by first | (cases h_; done) | exact hsame (fun q_ => by first | omega | (have h4_ := of_decide_eq_false h_; omega)) (fun q_ => by first | omega | (have h3_ := q_.2; simp [h3_] at *)) (fun q_ => by first | omega | (have h4_ := of_decide_eq_false h_; omega)))) ⟨rfl, rfl, rfl, rfl, rfl, rfl, rfl, trivial⟩ [0, 1, 2, 3] (by decide) rfl
              ·
                have p124 := of_decide_eq_false h122
                refine O.gq (t := 77) rfl rfl h122 rfl (Pu.qt (Pu.fieldAddr (off' := 0) Try.runUnderlying44 rfl Try.sizeOf3 rfl rfl rfl)) rfl ?_
                refine O.gq (t := 77) rfl rfl h122 rfl (Qt.ld rfl (Cel.var 3 rfl) (o := 0) (off := 0) rfl (Cut.one Try.isAgg3 rfl)) rfl ?_
                refine O.gq (t := 77) rfl rfl h122 rfl (Pu.qt (Pu.eql rfl rfl)) rfl ?_
                refine O.gq (t := 77) rfl rfl h122 rfl (Pu.qt (Pu.move rfl)) rfl ?_
                refine by_bool (decide (e12.kind = 1)) (fun h125 => ?_) (fun h125 => ?_)
                ·
                  have p126 := of_decide_eq_true h125
                  refine O.gq (t := 81) rfl rfl h125 rfl (Pu.qt (Pu.move rfl)) rfl ?_
                  refine O.gq (t := 77) rfl rfl h122 rfl (Pu.qt (Pu.pickT rfl h125 rfl)) rfl ?_
                  refine O.gq (t := 77) rfl rfl h122 rfl (Pu.qt (Pu.move rfl)) rfl ?_
                  refine O.gskip (t := 84) rfl rfl (no_bool (by decide)) rfl rfl ?_
                  refine O.gskip (t := 84) rfl rfl (no_bool (by decide)) rfl rfl ?_
                  refine O.gskip (t := 84) rfl rfl (no_bool (by decide)) rfl rfl ?_
                  refine O.gq (t := 77) rfl rfl h122 rfl (Pu.qt (Pu.pickF rfl rfl rfl)) rfl ?_
                  refine O.p (Pu.pickF rfl h122 rfl) rfl ?_
                  refine O.p (Pu.move rfl) rfl ?_
                  refine O.gq (t := 90) rfl rfl rfl rfl (Pu.qt (Pu.fieldAddr (off' := 0) Try.runUnderlying44 rfl Try.sizeOf3 rfl rfl rfl)) rfl ?_
                  refine O.gq (t := 90) rfl rfl rfl rfl (Qt.ld rfl (Cel.var 3 rfl) (o := 0) (off := 0) rfl (Cut.one Try.isAgg3 rfl)) rfl ?_
                  refine O.gq (t := 90) rfl rfl rfl rfl (Pu.qt (Pu.eql rfl rfl)) rfl ?_
                  refine O.gq (t := 90) rfl rfl rfl rfl (Pu.qt (Pu.move rfl)) rfl ?_
                  refine by_bool (decide (e12.kind = 2)) (fun h127 => ?_) (fun h127 => ?_)
                  ·
                    have p128 := of_decide_eq_true h127
                    refine O.gq (t := 94) rfl rfl h127 rfl (Pu.qt (Pu.fieldAddr (off' := 2) Try.runUnderlying44 rfl Try.sizeOf3 rfl rfl rfl)) rfl ?_
                    refine O.gq (t := 94) rfl rfl h127 rfl (Qt.ld rfl (Cel.var 3 rfl) (o := 0) (off := 2) rfl (Cut.one Try.isAgg3 rfl)) rfl ?_
                    refine O.gq (t := 94) rfl rfl h127 rfl (Pu.qt (Pu.move rfl)) rfl ?_
                    refine O.gq (t := 94) rfl rfl h127 rfl (Pu.qt (Pu.eql rfl rfl)) rfl ?_
                    refine O.gq (t := 90) rfl rfl rfl rfl (Pu.qt (Pu.pickT rfl h127 rfl)) rfl ?_
                    refine O.p (Pu.pickF rfl rfl rfl) rfl ?_
                    refine O.p (Pu.assign rfl) rfl ?_
                    refine O.nil ?_
                    exact J.cutEnd (decide (e12.job = other)) (show ((decide (e12.job = other)) = false → Wt.ofJ y other = Wt.ofJ x other) from (fun h_ => by first | (cases h_; done) | exact hsame (fun q_ => by first | omega | (have h4_ := of_decide_eq_false h_; omega)) (fun q_ => by first | omega | (have h3_ := q_.2; simp [h3_] at *)) (fun q_ => by first | omega | (have h4_ := of_decide_eq_false h_; omega)))) ⟨rfl, rfl, rfl, rfl, rfl, rfl, rfl, trivial⟩ [0, 1, 2, 3] (by decide) rfl
                  ·
                    have p129 := of_decide_eq_false h127
                    refine O.gskip (t := 94) rfl rfl (no_bool (by rw [h127]; decide)) rfl rfl ?_
                    refine O.gskip (t := 94) rfl rfl (no_bool (by rw [h127]; decide)) rfl rfl ?_
                    refine O.gskip (t := 94) rfl rfl (no_bool (by rw [h127]; decide)) rfl rfl ?_
                    refine O.gskip (t := 94) rfl rfl (no_bool (by rw [h127]; decide)) rfl rfl ?_
                    refine O.gq (t := 90) rfl rfl rfl rfl (Pu.qt (Pu.pickF rfl h127 rfl)) rfl ?_
                    refine O.p (Pu.pickF rfl rfl rfl) rfl ?_
                    refine O.p (Pu.assign rfl) rfl ?_
                    refine O.nil ?_
                    exact J.cutEnd false (show (false = false → Wt.ofJ y other = Wt.ofJ x other) from (fun h_ => by first | (cases h_; done) | exact hsame (fun q_ => by first | omega | (have h4_ := of_decide_eq_false h_; omega)) (fun q_ => by first | omega | (have h3_ := q_.2; simp [h3_] at *)) (fun q_ => by first | omega | (have h4_ := of_decide_eq_false h_; omega)))) ⟨rfl, rfl, rfl, rfl, rfl, rfl, rfl, trivial⟩ [0, 1, 2, 3] (by decide) rfl
                ·
                  have p130 := of_decide_eq_false h125
                  refine O.gskip (t := 81) rfl rfl (no_bool (by rw [h125]; decide)) rfl rfl ?_
                  refine O.gq (t := 77) rfl rfl h122 rfl (Pu.qt (Pu.pickF rfl h125 rfl)) rfl ?_
                  refine O.gq (t := 77) rfl rfl h122 rfl (Pu.qt (Pu.move rfl)) rfl ?_
                  refine O.gskip (t := 84) rfl rfl (no_bool (by decide)) rfl rfl ?_
                  refine O.gskip (t := 84) rfl rfl (no_bool (by decide)) rfl rfl ?_
                  refine O.gskip (t := 84) rfl rfl (no_bool (by decide)) rfl rfl ?_
                  refine O.gq (t := 77) rfl rfl h122 rfl (Pu.qt (Pu.pickF rfl rfl rfl)) rfl ?_
                  refine O.p (Pu.pickF rfl h122 rfl) rfl ?_
                  refine O.p (Pu.move rfl) rfl ?_
                  refine O.gq (t := 90) rfl rfl rfl rfl (Pu.qt (Pu.fieldAddr (off' := 0) Try.runUnderlying44 rfl Try.sizeOf3 rfl rfl rfl)) rfl ?_
                  refine O.gq (t := 90) rfl rfl rfl rfl (Qt.ld rfl (Cel.var 3 rfl) (o := 0) (off := 0) rfl (Cut.one Try.isAgg3 rfl)) rfl ?_
                  refine O.gq (t := 90) rfl rfl rfl rfl (Pu.qt (Pu.eql rfl rfl)) rfl ?_
                  refine O.gq (t := 90) rfl rfl rfl rfl (Pu.qt (Pu.move rfl)) rfl ?_
                  refine by_bool (decide (e12.kind = 2)) (fun h131 => ?_) (fun h131 => ?_)
                  ·
                    have p132 := of_decide_eq_true h131
                    refine O.gq (t := 94) rfl rfl h131 rfl (Pu.qt (Pu.fieldAddr (off' := 2) Try.runUnderlying44 rfl Try.sizeOf3 rfl rfl rfl)) rfl ?_
                    refine O.gq (t := 94) rfl rfl h131 rfl (Qt.ld rfl (Cel.var 3 rfl) (o := 0) (off := 2) rfl (Cut.one Try.isAgg3 rfl)) rfl ?_
                    refine O.gq (t := 94) rfl rfl h131 rfl (Pu.qt (Pu.move rfl)) rfl ?_
                    refine O.gq (t := 94) rfl rfl h131 rfl (Pu.qt (Pu.eql rfl rfl)) rfl ?_
                    refine O.gq (t := 90) rfl rfl rfl rfl (Pu.qt (Pu.pickT rfl h131 rfl)) rfl ?_
                    refine O.p (Pu.pickF rfl rfl rfl) rfl ?_
                    refine O.p (Pu.assign rfl) rfl ?_
                    refine O.nil ?_
                    exact J.cutEnd (decide (e12.job = other)) (show ((decide (e12.job = other)) = false → Wt.ofJ y other = Wt.ofJ x other) from (fun h_ => by first | (cases h_; done) | exact hsame (fun q_ => by first | omega | (have h4_ := of_decide_eq_false h_; omega)) (fun q_ => by first | omega | (have h3_ := q_.2; simp [h3_] at *)) (fun q_ => by first | omega | (have h4_ := of_decide_eq_false h_; omega)))) ⟨rfl, rfl, rfl, rfl, rfl, rfl, rfl, trivial⟩ [0, 1, 2, 3] (by decide) rfl
                  ·
                    have p133 := of_decide_eq_false h131
                    refine O.gskip (t := 94) rfl rfl (no_bool (by rw [h131]; decide)) rfl rfl ?_
                    refine O.gskip (t := 94) rfl rfl (no_bool (by rw [h131]; decide)) rfl rfl ?_
                    refine O.gskip (t := 94) rfl rfl (no_bool (by rw [h131]; decide)) rfl rfl ?_
                    refine O.gskip (t := 94) rfl rfl (no_bool (by rw [h131]; decide)) rfl rfl ?_
                    refine O.gq (t := 90) rfl rfl rfl rfl (Pu.qt (Pu.pickF rfl h131 rfl)) rfl ?_
                    refine O.p (Pu.pickF rfl rfl rfl) rfl ?_
                    refine O.p (Pu.assign rfl) rfl ?_
                    refine O.nil ?_
                    exact J.cutEnd false (show (false = false → Wt.ofJ y other = Wt.ofJ x other) from (fun h_ => by first | (cases h_; done) | exact hsame (fun q_ => by first | omega | (have h4_ := of_decide_eq_false h_; omega)) (fun q_ => by first | omega | (have h3_ := q_.2; simp [h3_] at *)) (fun q_ => by first | omega | (have h4_ := of_decide_eq_false h_; omega)))) ⟨rfl, rfl, rfl, rfl, rfl, rfl, rfl, trivial⟩ [0, 1, 2, 3] (by decide) rfl
            ·
              have p134 := of_decide_eq_false h120
              refine O.gskip (t := 71) rfl rfl (no_bool (by rw [h120]; decide)) rfl rfl ?_
              refine O.gskip (t := 71) rfl rfl (no_bool (by rw [h120]; decide)) rfl rfl ?_
              refine O.gskip (t := 71) rfl rfl (no_bool (by rw [h120]; decide)) rfl rfl ?_
              refine O.gskip (t := 71) rfl rfl (no_bool (by rw [h120]; decide)) rfl rfl ?_
              refine O.p (Pu.pickF rfl h120 rfl) rfl ?_
              refine O.p (Pu.move rfl) rfl ?_
              refine O.gq (t := 77) rfl rfl rfl rfl (Pu.qt (Pu.fieldAddr (off' := 0) Try.runUnderlying44 rfl Try.sizeOf3 rfl rfl rfl)) rfl ?_
              refine O.gq (t := 77) rfl rfl rfl rfl (Qt.ld rfl (Cel.var 3 rfl) (o := 0) (off := 0) rfl (Cut.one Try.isAgg3 rfl)) rfl ?_
              refine O.gq (t := 77) rfl rfl rfl rfl (Pu.qt (Pu.eql rfl rfl)) rfl ?_
              refine O.gq (t := 77) rfl rfl rfl rfl (Pu.qt (Pu.move rfl)) rfl ?_
              refine by_bool (decide (e12.kind = 1)) (fun h135 => ?_) (fun h135 => ?_)
              ·
                have p136 := of_decide_eq_true h135
                refine O.gq (t := 81) rfl rfl h135 rfl (Pu.qt (Pu.move rfl)) rfl ?_
                refine O.gq (t := 77) rfl rfl rfl rfl (Pu.qt (Pu.pickT rfl h135 rfl)) rfl ?_
                refine O.gq (t := 77) rfl rfl rfl rfl (Pu.qt (Pu.move rfl)) rfl ?_
                refine O.gskip (t := 84) rfl rfl (no_bool (by decide)) rfl rfl ?_
                refine O.gskip (t := 84) rfl rfl (no_bool (by decide)) rfl rfl ?_
                refine O.gskip (t := 84) rfl rfl (no_bool (by decide)) rfl rfl ?_
                refine O.gq (t := 77) rfl rfl rfl rfl (Pu.qt (Pu.pickF rfl rfl rfl)) rfl ?_
                refine O.p (Pu.pickF rfl rfl rfl) rfl ?_
                refine O.p (Pu.move rfl) rfl ?_
                refine O.gq (t := 90) rfl rfl rfl rfl (Pu.qt (Pu.fieldAddr (off' := 0) Try.runUnderlying44 rfl Try.sizeOf3 rfl rfl rfl)) rfl ?_
                refine O.gq (t := 90) rfl rfl rfl rfl (Qt.ld rfl (Cel.var 3 rfl) (o := 0) (off := 0) rfl (Cut.one Try.isAgg3 rfl)) rfl ?_
                refine O.gq (t := 90) rfl rfl rfl rfl (Pu.qt (Pu.eql rfl rfl)) rfl ?_
                refine O.gq (t := 90) rfl rfl rfl rfl (Pu.qt (Pu.move rfl)) rfl ?_
                refine by_bool (decide (e12.kind = 2)) (fun h137 => ?_) (fun h137 => ?_)
                ·
                  have p138 := of_decide_eq_true h137
                  refine O.gq (t := 94) rfl rfl h137 rfl (Pu.qt (Pu.fieldAddr (off' := 2) Try.runUnderlying44 rfl Try.sizeOf3 rfl rfl rfl)) rfl ?_
                  refine O.gq (t := 94) rfl rfl h137 rfl (Qt.ld rfl (Cel.var 3 rfl) (o := 0) (off := 2) rfl (Cut.one Try.isAgg3 rfl)) rfl ?_
                  refine O.gq (t := 94) rfl rfl h137 rfl (Pu.qt (Pu.move rfl)) rfl ?_
                  refine O.gq (t := 94) rfl rfl h137 rfl (Pu.qt (Pu.eql rfl rfl)) rfl ?_
                  refine O.gq (t := 90) rfl rfl rfl rfl (Pu.qt (Pu.pickT rfl h137 rfl)) rfl ?_
                  refine O.p (Pu.pickF rfl rfl rfl) rfl ?_
                  refine O.p (Pu.assign rfl) rfl ?_
                  refine O.nil ?_
                  exact J.cutEnd (decide (e12.job = other)) (show ((decide (e12.job = other)) = false → Wt.ofJ y other = Wt.ofJ x other) from (fun h_ => by first | (cases h_; done) | exact hsame (fun q_ => by first | omega | (have h4_ := of_decide_eq_false h_; omega)) (fun q_ => by first | omega | (have h3_ := q_.2; simp [h3_] at *)) (fun q_ => by first | omega | (have h4_ := of_decide_eq_false h_; omega)))) ⟨rfl, rfl, rfl, rfl, rfl, rfl, rfl, trivial⟩ [0, 1, 2, 3] (by decide) rfl
                ·
                  have p139 := of_decide_eq_false h137
                  refine O.gskip (t := 94) rfl rfl (no_bool (by rw [h137]; decide)) rfl rfl ?_
                  refine O.gskip (t := 94) rfl rfl (no_bool (by rw [h137]; decide)) rfl rfl ?_
                  refine O.gskip (t := 94) rfl rfl (no_bool (by rw [h137]; decide)) rfl rfl ?_
                  refine O.gskip (t := 94) rfl rfl (no_bool (by rw [h137]; decide)) rfl rfl ?_
                  refine O.gq (t := 90) rfl rfl rfl rfl (Pu.qt (Pu.pickF rfl h137 rfl)) rfl ?_
                  refine O.p (Pu.pickF rfl rfl rfl) rfl ?_
                  refine O.p (Pu.assign rfl) rfl ?_
                  refine O.nil ?_
                  exact J.cutEnd false (show (false = false → Wt.ofJ y other = Wt.ofJ x other) from (fun h_ => by first | (cases h_; done) | exact hsame (fun q_ => by first | omega | (have h4_ := of_decide_eq_false h_; omega)) (fun q_ => by first | omega | (have h3_ := q_.2; simp [h3_] at *)) (fun q_ => by first | omega | (have h4_ := of_decide_eq_false h_; omega)))) ⟨rfl, rfl, rfl, rfl, rfl, rfl, rfl, trivial⟩ [0, 1, 2, 3] (by decide) rfl
              ·
                have p140 := of_decide_eq_false h135
                refine O.gskip (t := 81) rfl rfl (no_bool (by rw [h135]; decide)) rfl rfl ?_
                refine O.gq (t := 77) rfl rfl rfl rfl (Pu.qt (Pu.pickF rfl h135 rfl)) rfl ?_
                refine O.gq (t := 77) rfl rfl rfl rfl (Pu.qt (Pu.move rfl)) rfl ?_
                refine O.gskip (t := 84) rfl rfl (no_bool (by decide)) rfl rfl ?_
                refine O.gskip (t := 84) rfl rfl (no_bool (by decide)) rfl rfl ?_
                refine O.gskip (t := 84) rfl rfl (no_bool (by decide)) rfl rfl ?_
                refine O.gq (t := 77) rfl rfl rfl rfl (Pu.qt (Pu.pickF rfl rfl rfl)) rfl ?_
                refine O.p (Pu.pickF rfl rfl rfl) rfl ?_
                refine O.p (Pu.move rfl) rfl ?_
                refine O.gq (t := 90) rfl rfl rfl rfl (Pu.qt (Pu.fieldAddr (off' := 0) Try.runUnderlying44 rfl Try.sizeOf3 rfl rfl rfl)) rfl ?_
                refine O.gq (t := 90) rfl rfl rfl rfl (Qt.ld rfl (Cel.var 3 rfl) (o := 0) (off := 0) rfl (Cut.one Try.isAgg3 rfl)) rfl ?_
                refine O.gq (t := 90) rfl rfl rfl rfl (Pu.qt (Pu.eql rfl rfl)) rfl ?_
                refine O.gq (t := 90) rfl rfl rfl rfl (Pu.qt (Pu.move rfl)) rfl ?_
                refine by_bool (decide (e12.kind = 2)) (fun h141 => ?_) (fun h141 => ?_)
                ·
                  have p142 := of_decide_eq_true h141
                  refine O.gq (t := 94) rfl rfl h141 rfl (Pu.qt (Pu.fieldAddr (off' := 2) Try.runUnderlying44 rfl Try.sizeOf3 rfl rfl rfl)) rfl ?_
                  refine O.gq (t := 94) rfl rfl h141 rfl (Qt.ld rfl (Cel.var 3 rfl) (o := 0) (off := 2) rfl (Cut.one Try.isAgg3 rfl)) rfl ?_
                  refine O.gq (t := 94) rfl rfl h141 rfl (Pu.qt (Pu.move rfl)) rfl ?_
                  refine O.gq (t := 94) rfl rfl h141 rfl (Pu.qt (Pu.eql rfl rfl)) rfl ?_
                  refine O.gq (t := 90) rfl rfl rfl rfl (Pu.qt (Pu.pickT rfl h141 rfl)) rfl ?_
                  refine O.p (Pu.pickF rfl rfl rfl) rfl ?_
                  refine O.p (Pu.assign rfl) rfl ?_
                  refine O.nil ?_
                  exact J.cutEnd (decide (e12.job = other)) (show ((decide (e12.job = other)) = false → Wt.ofJ y other = Wt.ofJ x other) from (fun h_ => by first | (cases h_; done) | exact hsame (fun q_ => by first | omega | (have h4_ := of_decide_eq_false h_; omega)) (fun q_ => by first | omega | (have h3_ := q_.2; simp [h3_] at *)) (fun q_ => by first | omega | (have h4_ := of_decide_eq_false h_; omega)))) ⟨rfl, rfl, rfl, rfl, rfl, rfl, rfl, trivial⟩ [0, 1, 2, 3] (by decide) rfl
                ·
                  have p143 := of_decide_eq_false h141
                  refine O.gskip (t := 94) rfl rfl (no_bool (by rw [h141]; decide)) rfl rfl ?_
                  refine O.gskip (t := 94) rfl rfl (no_bool (by rw [h141]; decide)) rfl rfl ?_
                  refine O.gskip (t := 94) rfl rfl (no_bool (by rw [h141]; decide)) rfl rfl ?_
                  refine O.gskip (t := 94) rfl rfl (no_bool (by rw [h141]; decide)) rfl rfl ?_
                  refine O.gq (t := 90) rfl rfl rfl rfl (Pu.qt (Pu.pickF rfl h141 rfl)) rfl ?_
                  refine O.p (Pu.pickF rfl rfl rfl) rfl ?_
                  refine O.p (Pu.assign rfl) rfl ?_
                  refine O.nil ?_
                  exact J.cutEnd false (show (false = false → Wt.ofJ y other = Wt.ofJ x other) from (fun h_ => by first | (cases h_; done) | exact hsame (fun q_ => by first | omega | (have h4_ := of_decide_eq_false h_; omega)) (fun q_ => by first | omega | (have h3_ := q_.2; simp [h3_] at *)) (fun q_ => by first | omega | (have h4_ := of_decide_eq_false h_; omega)))) ⟨rfl, rfl, rfl, rfl, rfl, rfl, rfl, trivial⟩ [0, 1, 2, 3] (by decide) rfl
        ·
          refine J.block ?_
          refine J.seq ?_
          refine J.region ?_
          refine O.p (Pu.eql rfl rfl) rfl ?_
          refine O.p (Pu.assign rfl) rfl ?_
          refine O.nil ?_
          refine J.cond rfl (fun h144 => ?_) (fun h144 => ?_)
          ·
            have p145 := of_decide_eq_true h144
            refine J.seq ?_
            refine J.region ?_
            refine O.p (Pu.move rfl) rfl ?_
            refine O.p (Pu.fieldAddr (off' := 1) Try.runUnderlying44 rfl Try.sizeOf3 rfl rfl rfl) rfl ?_
            refine O.q (Qt.ld rfl (Cel.var 1 rfl) (o := 0) (off := 1) rfl (Cut.one Try.isAgg3 rfl)) rfl ?_
            refine O.p (Pu.fieldAddr (off' := 2) Try.runUnderlying44 rfl Try.sizeOf3 rfl rfl rfl) rfl ?_
            refine O.q (Qt.ld rfl (Cel.var 1 rfl) (o := 0) (off := 2) rfl (Cut.one Try.isAgg3 rfl)) rfl ?_
            refine O.l (Lo.call [.pointer (some ⟨p5, 0, none⟩), .int .i64 e12.call, .int .i64 e12.job] (by exact Try.call20) rfl (wt_AddNew p5 s x hR e12.call e12.job h15) [2] [0, 1] (by decide) rfl [row v14 3 1 ((Wt.ofJ x other).map encZ), var g13 [.int .i64 e12.kind, .int .i64 e12.call, .int .i64 e12.job] 44] rfl RoOk.nil) rfl ?_
            rintro _ _ ⟨_, ⟨rfl, s146, hR147, rfl⟩, rfl⟩
            have hns146 : (Wt.ins x e12.call e12.job).length ≤ x.length + 1 := by first | omega | exact Nat.le_of_eq Wt.ins_len | exact Nat.le_succ_of_le Wt.without_len | exact Nat.le_succ_of_le Wt.drop_len | (simp; done) | (unfold Wt.add; split <;> first | omega | exact Nat.le_of_eq Wt.ins_len)
            refine O.p (Pu.move rfl) rfl ?_
            refine O.p (Pu.beql Try.underlying4 rfl rfl) rfl ?_
            refine O.nil ?_
            refine J.condF rfl (by decide) ?_
            refine J.skip ?_
            refine J.blk ?_
            exact J.cutEnd ⟨s146, Wt.ins x e12.call e12.job⟩ (show Wt.Rep (Wt.ins x e12.call e12.job) s146 ∧ (Wt.ins x e12.call e12.job).length ≤ i + 1 ∧ (¬(e12.kind = 0 ∧ e12.job = other) → ¬(e12.kind = 1 ∧ Wt.jobOf x e12.call = some other) → ¬(e12.kind = 2 ∧ e12.job = other) → Wt.ofJ (Wt.ins x e12.call e12.job) other = Wt.ofJ x other) from ⟨hR147, (by first | omega | (refine Nat.le_trans Wt.ofJ_len ?_; omega)), fun h0_ h1_ h2_ => Wt.ofJ_ins (fun h_ => h0_ ⟨by assumption, h_⟩)⟩) ⟨rfl, rfl, rfl, rfl, rfl, rfl, rfl, rfl, trivial⟩ [0, 1, 2] (by decide) rfl
          ·
            have p149 := of_decide_eq_false h144
            refine J.seq ?_
            refine J.region ?_
            refine O.p (Pu.eql rfl rfl) rfl ?_
            refine O.p (Pu.assign rfl) rfl ?_
            refine O.nil ?_
            refine J.cond rfl (fun h150 => ?_) (fun h150 => ?_)
            ·
              have p151 := of_decide_eq_true h150
              refine J.region ?_
              refine O.p (Pu.move rfl) rfl ?_
              refine O.p (Pu.fieldAddr (off' := 1) Try.runUnderlying44 rfl Try.sizeOf3 rfl rfl rfl) rfl ?_
              refine O.q (Qt.ld rfl (Cel.var 1 rfl) (o := 0) (off := 1) rfl (Cut.one Try.isAgg3 rfl)) rfl ?_
              refine O.l (Lo.call [.pointer (some ⟨p5, 0, none⟩), .int .i64 e12.call] (by exact Try.call21) rfl (wt_Take p5 s x hR e12.call) [2] [0, 1] (by decide) rfl [row v14 3 1 ((Wt.ofJ x other).map encZ), var g13 [.int .i64 e12.kind, .int .i64 e12.call, .int .i64 e12.job] 44] rfl RoOk.nil) rfl ?_
              rintro _ _ ⟨_, ⟨rfl, s152, hR153, rfl⟩, rfl⟩
              have hns152 : (Wt.without x e12.call).length ≤ x.length + 1 := by first | omega | exact Nat.le_of_eq Wt.ins_len | exact Nat.le_succ_of_le Wt.without_len | exact Nat.le_succ_of_le Wt.drop_len | (simp; done) | (unfold Wt.add; split <;> first | omega | exact Nat.le_of_eq Wt.ins_len)
              refine O.nil ?_
              refine J.blk ?_
              exact J.cutEnd ⟨s152, Wt.without x e12.call⟩ (show Wt.Rep (Wt.without x e12.call) s152 ∧ (Wt.without x e12.call).length ≤ i + 1 ∧ (¬(e12.kind = 0 ∧ e12.job = other) → ¬(e12.kind = 1 ∧ Wt.jobOf x e12.call = some other) → ¬(e12.kind = 2 ∧ e12.job = other) → Wt.ofJ (Wt.without x e12.call) other = Wt.ofJ x other) from ⟨hR153, (by first | omega | (refine Nat.le_trans Wt.ofJ_len ?_; omega)), fun h0_ h1_ h2_ => Wt.ofJ_without hR.up (fun h_ => h1_ ⟨by assumption, h_⟩)⟩) ⟨rfl, rfl, rfl, rfl, rfl, rfl, rfl, rfl, trivial⟩ [0, 1, 2] (by decide) rfl
            ·
              have p155 := of_decide_eq_false h150
              refine J.seq ?_
              refine J.region ?_
              refine O.p (Pu.eql rfl rfl) rfl ?_
              refine O.p (Pu.assign rfl) rfl ?_
              refine O.nil ?_
              refine J.cond rfl (fun h156 => ?_) (fun h156 => ?_)
              ·
                have p157 := of_decide_eq_true h156
                refine J.region ?_
                refine O.p (Pu.move rfl) rfl ?_
                refine O.p (Pu.fieldAddr (off' := 2) Try.runUnderlying44 rfl Try.sizeOf3 rfl rfl rfl) rfl ?_
                refine O.q (Qt.ld rfl (Cel.var 1 rfl) (o := 0) (off := 2) rfl (Cut.one Try.isAgg3 rfl)) rfl ?_
                refine O.l (Lo.call [.pointer (some ⟨p5, 0, none⟩), .int .i64 e12.job] (by exact Try.call22) rfl (wt_Drop p5 s x hR e12.job (by first | omega | (refine Nat.le_trans Wt.ofJ_len ?_; omega))) [2] [0, 1] (by decide) rfl [row v14 3 1 ((Wt.ofJ x other).map encZ), var g13 [.int .i64 e12.kind, .int .i64 e12.call, .int .i64 e12.job] 44] rfl RoOk.nil) rfl ?_
                rintro v160 _ ⟨_, ⟨s158, hR159, rfl⟩, rfl⟩
                have hns158 : (Wt.drop x e12.job).length ≤ x.length + 1 := by first | omega | exact Nat.le_of_eq Wt.ins_len | exact Nat.le_succ_of_le Wt.without_len | exact Nat.le_succ_of_le Wt.drop_len | (simp; done) | (unfold Wt.add; split <;> first | omega | exact Nat.le_of_eq Wt.ins_len)
                refine O.nil ?_
                refine J.blk ?_
                exact J.cutEnd ⟨s158, Wt.drop x e12.job⟩ (show Wt.Rep (Wt.drop x e12.job) s158 ∧ (Wt.drop x e12.job).length ≤ i + 1 ∧ (¬(e12.kind = 0 ∧ e12.job = other) → ¬(e12.kind = 1 ∧ Wt.jobOf x e12.call = some other) → ¬(e12.kind = 2 ∧ e12.job = other) → Wt.ofJ (Wt.drop x e12.job) other = Wt.ofJ x other) from ⟨hR159, (by first | omega | (refine Nat.le_trans Wt.ofJ_len ?_; omega)), fun h0_ h1_ h2_ => Wt.ofJ_drop (fun h_ => h2_ ⟨by assumption, h_⟩)⟩) ⟨rfl, rfl, rfl, rfl, rfl, rfl, rfl, rfl, trivial⟩ [1, 2, 3] (by decide) rfl
              ·
                have p161 := of_decide_eq_false h156
                refine J.skip ?_
                refine J.blk ?_
                exact J.cutEnd ⟨s, x⟩ (show Wt.Rep x s ∧ x.length ≤ i + 1 ∧ (¬(e12.kind = 0 ∧ e12.job = other) → ¬(e12.kind = 1 ∧ Wt.jobOf x e12.call = some other) → ¬(e12.kind = 2 ∧ e12.job = other) → Wt.ofJ x other = Wt.ofJ x other) from ⟨hR, (by first | omega | (refine Nat.le_trans Wt.ofJ_len ?_; omega)), fun h0_ h1_ h2_ => rfl⟩) ⟨rfl, rfl, rfl, rfl, rfl, rfl, rfl, rfl, trivial⟩ [2, 0, 1] (by decide) rfl
    ·
      have p162 := of_decide_eq_false h10
      refine J.exit _ rfl ?_
      refine J.seq ?_
      refine J.region ?_
      refine O.l (Lo.call [] (by exact Try.call16) rfl law34_awake [] [0] (by decide) rfl [wt 62 p5 s] rfl RoOk.nil) rfl ?_
      rintro _ _ ⟨_, ⟨rfl, rfl⟩, rfl⟩
      refine O.p (Pu.assign rfl) rfl ?_
      refine O.nil ?_
      exact J.ret (Fin.ret (rs := [.tmp 4]) rfl [_] ⟨rfl, trivial⟩ [] (by decide) [] rfl ⟨rfl, rfl⟩)

end Go.Proofs.Ytnkhmbbnabejhaa
