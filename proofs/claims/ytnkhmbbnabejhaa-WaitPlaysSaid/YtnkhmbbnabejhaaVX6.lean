/-
  Walks, printed by a program of mine (lk.py): each function meets its contract.
-/
import Derived.KernelRfl
import Derived.Test.YtnkhmbbnabejhaaVX4
namespace Go.Proofs.Ytnkhmbbnabejhaa
open Go Go.LK
set_option linter.unusedSimpArgs false

set_option maxRecDepth 100000 in
set_option maxHeartbeats 1000000 in
theorem law34_waitPlays (lv : Value) (l : List Ac) : Tri Try.prog 5 #[lv] [rd lv 3 (l.map Ac.cells)] [] (fun v L' => v = .bool true ∧ L' = []) := by
  refine Tri.enter (args := [lv]) (body := _) 144 Try.func5 rfl Try.ntmps5 rfl ?_
  intro w0
  refine J.seq ?_
  refine J.region ?_
  refine O.p (Pu.assign rfl) rfl ?_
  refine O.nil ?_
  refine J.seq ?_
  refine J.seq ?_
  refine J.region ?_
  refine O.p (Pu.move rfl) rfl ?_
  refine O.q (Qt.lenM Try.runUnderlying40 rfl (Src.ro 0 rfl)) rfl ?_
  refine O.p (Pu.gtr rfl rfl) rfl ?_
  refine O.nil ?_
  refine J.cond rfl (fun h1 => ?_) (fun h1 => ?_)
  ·
    have p2 := of_decide_eq_true h1
    refine J.seq ?_
    refine J.region ?_
    refine O.l (Lo.call [] (by exact Try.call16) rfl law34_awake [] [] (by decide) rfl [] rfl RoOk.nil) rfl ?_
    rintro _ _ ⟨_, ⟨rfl, rfl⟩, rfl⟩
    refine O.p (Pu.assign rfl) rfl ?_
    refine O.nil ?_
    exact J.ret (Fin.ret (rs := [.tmp 2]) rfl [_] ⟨rfl, trivial⟩ [] (by decide) [] rfl ⟨rfl, rfl⟩)
  ·
    have p4 := of_decide_eq_false h1
    refine J.skip ?_
    refine J.seq ?_
    refine J.region ?_
    refine O.l (Lo.call [] (by exact Try.call17) rfl wt_New [] [] (by decide) rfl [] rfl RoOk.nil) rfl ?_
    rintro _ _ ⟨_, ⟨p5, s6, rfl, rfl, hR7⟩, rfl⟩
    refine O.p (Pu.assign rfl) rfl ?_
    refine O.nil ?_
    refine J.seq ?_
    refine J.region ?_
    refine O.p (Pu.assign rfl) rfl ?_
    refine O.nil ?_
    refine J.seq ?_
    refine J.seq ?_
    refine J.region ?_
    refine O.p (Pu.assign rfl) rfl ?_
    refine O.nil ?_
    refine J.block ?_
    refine J.nilRow 98 2 ?_
    refine J.loop (X := Nat × Ws × Value × List Pr) (fun ξ => ξ.1 ≤ l.length ∧ Wt.Rep ξ.2.2.2 ξ.2.1 ∧ ξ.2.2.2.length ≤ ξ.1) (fun ξ => [(0, lv), (3, .pointer (some ⟨p5, 0, none⟩)), (4, ξ.2.2.1), (5, .int .i64 (ξ.1 : Int))]) (fun ξ => [wt 62 p5 ξ.2.1, row ξ.2.2.1 98 2 (ξ.2.2.2.map Pr.cells)]) (fun ξ => l.length - ξ.1) ⟨0, s6, Value.slice none 0 0, []⟩ (show 0 ≤ l.length ∧ Wt.Rep ([]) s6 ∧ ([]).length ≤ 0 from ⟨by omega, (by assumption), by simp⟩) ⟨rfl, rfl, rfl, (congrArg (fun z => some (Value.int .i64 z)) (by first | rfl | omega : (0 : Int) = (0 : Int))), trivial⟩ [1, 0] (by decide) rfl ?_
    rintro ⟨i, s, V, x⟩ hq9
    obtain ⟨hi, hR, hx⟩ : i ≤ l.length ∧ Wt.Rep x s ∧ x.length ≤ i := hq9
    show J _ _ [(0, lv), (3, .pointer (some ⟨p5, 0, none⟩)), (4, V), (5, .int .i64 (i : Int))] [wt 62 p5 s, row V 98 2 (x.map Pr.cells)]
    refine J.seq ?_
    refine J.seq ?_
    refine J.region ?_
    refine O.p (Pu.move rfl) rfl ?_
    refine O.p (Pu.move rfl) rfl ?_
    refine O.q (Qt.lenM Try.runUnderlying40 rfl (Src.ro 0 rfl)) rfl ?_
    refine O.p (Pu.lss rfl rfl) rfl ?_
    refine O.nil ?_
    refine J.cond rfl (fun h10 => ?_) (fun h10 => ?_)
    ·
      have p11 := of_decide_eq_true h10
      refine J.skip ?_
      refine J.seq ?_
      refine J.block ?_
      refine J.seq ?_
      refine J.region ?_
      refine O.p (Pu.move rfl) rfl ?_
      refine O.p (Pu.move rfl) rfl ?_
      obtain ⟨e12, he12⟩ : ∃ x_, l[i]? = some x_ := ⟨_, List.getElem?_eq_getElem (by omega)⟩
      refine O.q (Qt.idxM Try.runUnderlying40 Try.sizeOf44 rfl (Src.ro 0 rfl) rfl (by omega) (by omega)) rfl ?_
      refine O.q (Qt.ld rfl (Cel.eltM (Src.ro 0 rfl) he12) (o := (voff lv + i * 3)) (off := 0) (by omega) (Cut.agg [.int .i64 e12.kind, .int .i64 e12.call, .int .i64 e12.job] Try.isAgg44 Try.sizeOf44 rfl rfl)) rfl ?_
      refine O.l (Lo.alloc [.int .i64 0, .int .i64 0, .int .i64 0] (by exact Try.zeroValue44) rfl) rfl ?_
      rintro _ _ ⟨g13, rfl, rfl⟩
      refine O.l0 (Lo.store 0 (vs := [.int .i64 e12.kind, .int .i64 e12.call, .int .i64 e12.job]) [.int .i64 e12.kind, .int .i64 e12.call, .int .i64 e12.job] rfl rfl rfl (by exact Try.sizeOf44) rfl rfl rfl rfl rfl) ?_
      rintro _ _ rfl
      refine O.nil ?_
      refine J.seq ?_
      refine J.seq ?_
      refine J.region ?_
      refine O.p (Pu.fieldAddr (off' := 0) Try.runUnderlying44 rfl Try.sizeOf3 rfl rfl rfl) rfl ?_
      refine O.q (Qt.ld rfl (Cel.var 0 rfl) (o := 0) (off := 0) rfl (Cut.one Try.isAgg3 rfl)) rfl ?_
      refine O.nil ?_
      refine J.block ?_
      refine J.seq ?_
      refine J.region ?_
      refine O.p (Pu.eql rfl rfl) rfl ?_
      refine O.p (Pu.assign rfl) rfl ?_
      refine O.nil ?_
      refine J.cond rfl (fun h14 => ?_) (fun h14 => ?_)
      ·
        have p15 := of_decide_eq_true h14
        refine J.seq ?_
        refine by_bool ((Wt.jobOf x e12.call).isSome) (fun h16 => ?_) (fun h16 => ?_)
        ·
          refine J.region ?_
          refine O.p (Pu.move rfl) rfl ?_
          refine O.p (Pu.fieldAddr (off' := 1) Try.runUnderlying44 rfl Try.sizeOf3 rfl rfl rfl) rfl ?_
          refine O.q (Qt.ld rfl (Cel.var 0 rfl) (o := 0) (off := 1) rfl (Cut.one Try.isAgg3 rfl)) rfl ?_
          refine O.p (Pu.fieldAddr (off' := 2) Try.runUnderlying44 rfl Try.sizeOf3 rfl rfl rfl) rfl ?_
          refine O.q (Qt.ld rfl (Cel.var 0 rfl) (o := 0) (off := 2) rfl (Cut.one Try.isAgg3 rfl)) rfl ?_
          refine O.l (Lo.call [V, .int .i64 e12.call, .int .i64 e12.job] (by exact Try.call24) rfl (r34_AddIs V x e12.call e12.job (by first | omega | (simp only [Wt.ins_len]; omega) | (refine Nat.le_trans Wt.ofJ_len ?_; first | omega | (simp; done) | (simp only [Wt.ins_len]; omega) | (refine Nat.le_trans Wt.without_len ?_; omega) | (refine Nat.le_trans Wt.drop_len ?_; omega)) | (refine Nat.le_trans Wt.without_len ?_; omega) | (refine Nat.le_trans Wt.drop_len ?_; omega) | (simp; done)) h16) [] [0, 1, 2] (by decide) rfl [var g13 [.int .i64 e12.kind, .int .i64 e12.call, .int .i64 e12.job] 44, wt 62 p5 s, row V 98 2 (x.map Pr.cells)] rfl (RoOk.of 2 rfl row_rd [] (by decide) rfl RoOk.nil)) rfl ?_
          rintro _ _ ⟨_, ⟨rfl, rfl⟩, rfl⟩
          refine O.p (Pu.move rfl) rfl ?_
          refine O.p (Pu.extract rfl rfl) rfl ?_
          refine O.p (Pu.extract rfl rfl) rfl ?_
          refine O.p (Pu.assign rfl) rfl ?_
          refine O.p (Pu.assign rfl) rfl ?_
          refine O.nil ?_
          refine J.seq ?_
          refine J.seq ?_
          refine J.region ?_
          refine O.p (Pu.move rfl) rfl ?_
          refine O.p (Pu.fieldAddr (off' := 1) Try.runUnderlying44 rfl Try.sizeOf3 rfl rfl rfl) rfl ?_
          refine O.q (Qt.ld rfl (Cel.var 0 rfl) (o := 0) (off := 1) rfl (Cut.one Try.isAgg3 rfl)) rfl ?_
          refine O.p (Pu.fieldAddr (off' := 2) Try.runUnderlying44 rfl Try.sizeOf3 rfl rfl rfl) rfl ?_
          refine O.q (Qt.ld rfl (Cel.var 0 rfl) (o := 0) (off := 2) rfl (Cut.one Try.isAgg3 rfl)) rfl ?_
          refine O.l (Lo.call [.pointer (some ⟨p5, 0, none⟩), .int .i64 e12.call, .int .i64 e12.job] (by exact Try.call20) rfl (wt_AddIs p5 s x hR e12.call e12.job h16) [1] [0, 2] (by decide) rfl [var g13 [.int .i64 e12.kind, .int .i64 e12.call, .int .i64 e12.job] 44, row V 98 2 (x.map Pr.cells)] rfl RoOk.nil) rfl ?_
          rintro _ _ ⟨_, ⟨rfl, s18, hR19, rfl⟩, rfl⟩
          refine O.p (Pu.move rfl) rfl ?_
          refine O.p (Pu.bneq Try.underlying4 rfl rfl) rfl ?_
          refine O.nil ?_
          refine J.condF rfl (by decide) ?_
          refine J.skip ?_
          refine J.region ?_
          refine O.p (Pu.move rfl) rfl ?_
          refine O.p (Pu.assign rfl) rfl ?_
          refine O.nil ?_
          refine J.blk ?_
          refine J.seq ?_
          refine J.region ?_
          refine O.p (Pu.move rfl) rfl ?_
          refine O.p (Pu.fieldAddr (off' := 1) Try.runUnderlying44 rfl Try.sizeOf3 rfl rfl rfl) rfl ?_
          refine O.q (Qt.ld rfl (Cel.var 1 rfl) (o := 0) (off := 1) rfl (Cut.one Try.isAgg3 rfl)) rfl ?_
          refine O.l (Lo.call [.pointer (some ⟨p5, 0, none⟩), .int .i64 e12.call] (by exact Try.call19) rfl (wt_JobIs p5 s18 x hR19 e12.call h16) [] [0, 1, 2] (by decide) rfl [wt 62 p5 s18, var g13 [.int .i64 e12.kind, .int .i64 e12.call, .int .i64 e12.job] 44, row V 98 2 (x.map Pr.cells)] rfl (RoOk.of 0 rfl same_rd [] (by decide) rfl RoOk.nil)) rfl ?_
          rintro _ _ ⟨_, ⟨rfl, rfl⟩, rfl⟩
          refine O.p (Pu.move rfl) rfl ?_
          refine O.p (Pu.extract rfl rfl) rfl ?_
          refine O.p (Pu.extract rfl rfl) rfl ?_
          refine O.p (Pu.assign rfl) rfl ?_
          refine O.p (Pu.assign rfl) rfl ?_
          refine O.nil ?_
          refine J.seq ?_
          refine J.region ?_
          refine O.p (Pu.move rfl) rfl ?_
          refine O.p (Pu.fieldAddr (off' := 1) Try.runUnderlying44 rfl Try.sizeOf3 rfl rfl rfl) rfl ?_
          refine O.q (Qt.ld rfl (Cel.var 1 rfl) (o := 0) (off := 1) rfl (Cut.one Try.isAgg3 rfl)) rfl ?_
          refine O.l (Lo.call [V, .int .i64 e12.call] (by exact Try.call25) rfl (r34_JobIs V x e12.call (by first | omega | (simp only [Wt.ins_len]; omega) | (refine Nat.le_trans Wt.ofJ_len ?_; first | omega | (simp; done) | (simp only [Wt.ins_len]; omega) | (refine Nat.le_trans Wt.without_len ?_; omega) | (refine Nat.le_trans Wt.drop_len ?_; omega)) | (refine Nat.le_trans Wt.without_len ?_; omega) | (refine Nat.le_trans Wt.drop_len ?_; omega) | (simp; done)) h16) [] [0, 1, 2] (by decide) rfl [wt 62 p5 s18, var g13 [.int .i64 e12.kind, .int .i64 e12.call, .int .i64 e12.job] 44, row V 98 2 (x.map Pr.cells)] rfl (RoOk.of 2 rfl row_rd [] (by decide) rfl RoOk.nil)) rfl ?_
          rintro _ _ ⟨_, ⟨rfl, rfl⟩, rfl⟩
          refine O.p (Pu.move rfl) rfl ?_
          refine O.p (Pu.extract rfl rfl) rfl ?_
          refine O.p (Pu.extract rfl rfl) rfl ?_
          refine O.p (Pu.assign rfl) rfl ?_
          refine O.p (Pu.assign rfl) rfl ?_
          refine O.nil ?_
          refine J.seq ?_
          refine J.drawMix [(0, false), (1, false), (2, false), (3, false), (4, false), (5, false), (6, false), (7, false), (8, false), (9, false), (10, false), (11, false), (13, false), (14, false), (15, false), (12, true), (16, true), (17, false), (18, false), (19, false), (20, false), (21, false), (22, false), (23, false), (24, false), (25, false), (26, false)] [0, 1, 2] [wt 62 p5 s18, var g13 [.int .i64 e12.kind, .int .i64 e12.call, .int .i64 e12.job] 44, row V 98 2 (x.map Pr.cells)] Try.mixed (by kernel_rfl) (by decide) rfl ?_
          refine Mx.p rfl (Pu.move rfl) rfl ?_
          refine Mx.p rfl (Pu.move rfl) rfl ?_
          refine Mx.p rfl (Pu.neq rfl rfl) rfl ?_
          refine Mx.p rfl (Pu.move rfl) rfl ?_
          refine Mx.gq (t := 119) rfl rfl rfl (by simp) rfl (Pu.qt (Pu.move rfl)) rfl ?_
          refine Mx.gq (t := 119) rfl rfl rfl (by simp) rfl (Pu.qt (Pu.move rfl)) rfl ?_
          refine Mx.gq (t := 119) rfl rfl rfl (by simp) rfl (Pu.qt (Pu.bneq Try.underlying4 rfl rfl)) rfl ?_
          refine Mx.p rfl (Pu.pickF rfl (by simp) rfl) rfl ?_
          refine Mx.p rfl (Pu.move rfl) rfl ?_
          refine Mx.gq (t := 124) rfl rfl rfl (by decide) rfl (Pu.qt (Pu.move rfl)) rfl ?_
          refine Mx.gq (t := 124) rfl rfl rfl (by decide) rfl (Pu.qt (Pu.fieldAddr (off' := 2) Try.runUnderlying44 rfl Try.sizeOf3 rfl rfl rfl)) rfl ?_
          refine Mx.gq (t := 124) rfl rfl rfl (by decide) rfl (Qt.ld rfl (Cel.var 1 rfl) (o := 0) (off := 2) rfl (Cut.one Try.isAgg3 rfl)) rfl ?_
          refine Mx.gq (t := 124) rfl rfl rfl (by decide) rfl (Pu.qt (Pu.move rfl)) rfl ?_
          refine Mx.gq (t := 124) rfl rfl rfl (by decide) rfl (Pu.qt (Pu.fieldAddr (off' := 2) Try.runUnderlying44 rfl Try.sizeOf3 rfl rfl rfl)) rfl ?_
          refine Mx.gq (t := 124) rfl rfl rfl (by decide) rfl (Qt.ld rfl (Cel.var 1 rfl) (o := 0) (off := 2) rfl (Cut.one Try.isAgg3 rfl)) rfl ?_
          refine Mx.gl (t := 124) rfl rfl rfl (by decide) rfl (Lo.call [.pointer (some ⟨p5, 0, none⟩), .int .i64 e12.job] (by exact Try.call18) rfl (wt_Of p5 s18 x hR19 e12.job (by first | omega | (simp only [Wt.ins_len]; omega) | (refine Nat.le_trans Wt.ofJ_len ?_; first | omega | (simp; done) | (simp only [Wt.ins_len]; omega) | (refine Nat.le_trans Wt.without_len ?_; omega) | (refine Nat.le_trans Wt.drop_len ?_; omega)) | (refine Nat.le_trans Wt.without_len ?_; omega) | (refine Nat.le_trans Wt.drop_len ?_; omega) | (simp; done))) [] [0, 1, 2] (by decide) rfl [wt 62 p5 s18, var g13 [.int .i64 e12.kind, .int .i64 e12.call, .int .i64 e12.job] 44, row V 98 2 (x.map Pr.cells)] rfl (RoOk.of 0 rfl same_rd [] (by decide) rfl RoOk.nil)) rfl ?_
          rintro v23 _ ⟨_, rfl, rfl⟩
          refine MxK.go [0, 1, 2, 3] [1, 2, 3] [row v23 3 1 ((Wt.ofJ x e12.job).map encZ), wt 62 p5 s18, var g13 [.int .i64 e12.kind, .int .i64 e12.call, .int .i64 e12.job] 44, row V 98 2 (x.map Pr.cells)] (by decide) rfl (by decide) rfl ?_
          refine Mx.gl (t := 124) rfl rfl rfl (by decide) rfl (Lo.call [V, .int .i64 e12.job] (by exact Try.call27) rfl (r34_Of V x e12.job (by first | omega | (simp only [Wt.ins_len]; omega) | (refine Nat.le_trans Wt.ofJ_len ?_; first | omega | (simp; done) | (simp only [Wt.ins_len]; omega) | (refine Nat.le_trans Wt.without_len ?_; omega) | (refine Nat.le_trans Wt.drop_len ?_; omega)) | (refine Nat.le_trans Wt.without_len ?_; omega) | (refine Nat.le_trans Wt.drop_len ?_; omega) | (simp; done))) [] [0, 1, 2, 3] (by decide) rfl [row v23 3 1 ((Wt.ofJ x e12.job).map encZ), wt 62 p5 s18, var g13 [.int .i64 e12.kind, .int .i64 e12.call, .int .i64 e12.job] 44, row V 98 2 (x.map Pr.cells)] rfl (RoOk.of 3 rfl row_rd [] (by decide) rfl RoOk.nil)) rfl ?_
          rintro v24 _ ⟨_, rfl, rfl⟩
          refine MxK.go [0, 1, 2, 3, 4] [1, 2, 3, 4] [row v24 3 1 ((Wt.ofJ x e12.job).map encZ), row v23 3 1 ((Wt.ofJ x e12.job).map encZ), wt 62 p5 s18, var g13 [.int .i64 e12.kind, .int .i64 e12.call, .int .i64 e12.job] 44, row V 98 2 (x.map Pr.cells)] (by decide) rfl (by decide) rfl ?_
          refine Mx.gcall (vs := [v23, v24]) (caps := []) (t := 124) rfl rfl rfl (by decide) rfl (by exact Try.call23) rfl rfl (n01_Same v23 v24 (Wt.ofJ x e12.job) (Wt.ofJ x e12.job) (by first | omega | (simp only [Wt.ins_len]; omega) | (refine Nat.le_trans Wt.ofJ_len ?_; first | omega | (simp; done) | (simp only [Wt.ins_len]; omega) | (refine Nat.le_trans Wt.without_len ?_; omega) | (refine Nat.le_trans Wt.drop_len ?_; omega)) | (refine Nat.le_trans Wt.without_len ?_; omega) | (refine Nat.le_trans Wt.drop_len ?_; omega) | (simp; done)) (by first | omega | (simp only [Wt.ins_len]; omega) | (refine Nat.le_trans Wt.ofJ_len ?_; first | omega | (simp; done) | (simp only [Wt.ins_len]; omega) | (refine Nat.le_trans Wt.without_len ?_; omega) | (refine Nat.le_trans Wt.drop_len ?_; omega)) | (refine Nat.le_trans Wt.without_len ?_; omega) | (refine Nat.le_trans Wt.drop_len ?_; omega) | (simp; done))) (fun _ _ h => h) (RoOk.of 1 rfl row_rd [] (by decide) rfl (RoOk.of 0 rfl row_rd [] (by decide) rfl RoOk.nil)) rfl ?_
          refine Mx.gq (t := 124) rfl rfl rfl (by decide) rfl (Pu.qt (Pu.not rfl)) rfl ?_
          refine Mx.p rfl (Pu.pickF rfl (by decide) rfl) rfl ?_
          refine Mx.p rfl (Pu.move rfl) rfl ?_
          refine Mx.gq (t := 136) rfl rfl rfl (not_of_true (by simp)) rfl (Pu.qt (Pu.move rfl)) rfl ?_
          refine Mx.gcall (vs := [.pointer (some ⟨p5, 0, none⟩)]) (caps := []) (t := 136) rfl rfl rfl (not_of_true (by simp)) rfl (by exact Try.call30) rfl rfl (wt_Len p5 s18 x hR19) (fun _ _ h => h) (RoOk.of 2 rfl same_rd [] (by decide) rfl RoOk.nil) rfl ?_
          refine Mx.gq (t := 136) rfl rfl rfl (not_of_true (by simp)) rfl (Pu.qt (Pu.move rfl)) rfl ?_
          refine Mx.gq (t := 136) rfl rfl rfl (not_of_true (by simp)) rfl (Qt.lenM Try.runUnderlying51 rfl (Src.row 4 rfl)) rfl ?_
          refine Mx.gq (t := 136) rfl rfl rfl (not_of_true (by simp)) rfl (Pu.qt (Pu.neq rfl rfl)) rfl ?_
          refine Mx.p rfl (Pu.pickF rfl (not_of_true (by simp)) rfl) rfl ?_
          refine Mx.nil ?_
          refine J.condF rfl (by simp) ?_
          refine J.skip ?_
          refine J.blk ?_
          refine J.region ?_
          refine O.p (Pu.move rfl) rfl ?_
          refine O.p (Pu.add' rfl rfl (by first | omega | (simp only [List.length_append, List.length_cons, List.length_nil, List.length_set]; omega))) rfl ?_
          refine O.p (Pu.assign rfl) rfl ?_
          refine O.nil ?_
          exact J.lp ⟨i + 1, s18, V, x⟩ (show (i + 1) ≤ l.length ∧ Wt.Rep x s18 ∧ x.length ≤ (i + 1) from ⟨by omega, hR19, (by first | omega | (simp only [Wt.ins_len]; omega) | (refine Nat.le_trans Wt.ofJ_len ?_; first | omega | (simp; done) | (simp only [Wt.ins_len]; omega) | (refine Nat.le_trans Wt.without_len ?_; omega) | (refine Nat.le_trans Wt.drop_len ?_; omega)) | (refine Nat.le_trans Wt.without_len ?_; omega) | (refine Nat.le_trans Wt.drop_len ?_; omega) | (simp; done))⟩) (show l.length - (i + 1) < l.length - i from (by omega)) ⟨rfl, rfl, rfl, (congrArg (fun z => some (Value.int .i64 z)) (by first | rfl | omega : ((i : Int) + 1 : Int) = ((i + 1) : Int))), trivial⟩ [2, 4] (by decide) rfl
        ·
          refine J.region ?_
          refine O.p (Pu.move rfl) rfl ?_
          refine O.p (Pu.fieldAddr (off' := 1) Try.runUnderlying44 rfl Try.sizeOf3 rfl rfl rfl) rfl ?_
          refine O.q (Qt.ld rfl (Cel.var 0 rfl) (o := 0) (off := 1) rfl (Cut.one Try.isAgg3 rfl)) rfl ?_
          refine O.p (Pu.fieldAddr (off' := 2) Try.runUnderlying44 rfl Try.sizeOf3 rfl rfl rfl) rfl ?_
          refine O.q (Qt.ld rfl (Cel.var 0 rfl) (o := 0) (off := 2) rfl (Cut.one Try.isAgg3 rfl)) rfl ?_
          refine O.l (Lo.call [V, .int .i64 e12.call, .int .i64 e12.job] (by exact Try.call24) rfl (r34_AddNew V x e12.call e12.job (by first | omega | (simp only [Wt.ins_len]; omega) | (refine Nat.le_trans Wt.ofJ_len ?_; first | omega | (simp; done) | (simp only [Wt.ins_len]; omega) | (refine Nat.le_trans Wt.without_len ?_; omega) | (refine Nat.le_trans Wt.drop_len ?_; omega)) | (refine Nat.le_trans Wt.without_len ?_; omega) | (refine Nat.le_trans Wt.drop_len ?_; omega) | (simp; done)) h16) [] [0, 1, 2] (by decide) rfl [var g13 [.int .i64 e12.kind, .int .i64 e12.call, .int .i64 e12.job] 44, wt 62 p5 s, row V 98 2 (x.map Pr.cells)] rfl (RoOk.of 2 rfl row_rd [] (by decide) rfl RoOk.nil)) rfl ?_
          rintro _ _ ⟨_, ⟨V25, rfl, rfl⟩, rfl⟩
          refine O.p (Pu.move rfl) rfl ?_
          refine O.p (Pu.extract rfl rfl) rfl ?_
          refine O.p (Pu.extract rfl rfl) rfl ?_
          refine O.p (Pu.assign rfl) rfl ?_
          refine O.p (Pu.assign rfl) rfl ?_
          refine O.nil ?_
          refine J.seq ?_
          refine J.seq ?_
          refine J.region ?_
          refine O.p (Pu.move rfl) rfl ?_
          refine O.p (Pu.fieldAddr (off' := 1) Try.runUnderlying44 rfl Try.sizeOf3 rfl rfl rfl) rfl ?_
          refine O.q (Qt.ld rfl (Cel.var 1 rfl) (o := 0) (off := 1) rfl (Cut.one Try.isAgg3 rfl)) rfl ?_
          refine O.p (Pu.fieldAddr (off' := 2) Try.runUnderlying44 rfl Try.sizeOf3 rfl rfl rfl) rfl ?_
          refine O.q (Qt.ld rfl (Cel.var 1 rfl) (o := 0) (off := 2) rfl (Cut.one Try.isAgg3 rfl)) rfl ?_
          refine O.l (Lo.call [.pointer (some ⟨p5, 0, none⟩), .int .i64 e12.call, .int .i64 e12.job] (by exact Try.call20) rfl (wt_AddNew p5 s x hR e12.call e12.job h16) [2] [0, 1, 3] (by decide) rfl [row V25 98 2 ((Wt.ins x e12.call e12.job).map Pr.cells), var g13 [.int .i64 e12.kind, .int .i64 e12.call, .int .i64 e12.job] 44, row V 98 2 (x.map Pr.cells)] rfl RoOk.nil) rfl ?_
          rintro _ _ ⟨_, ⟨rfl, s27, hR28, rfl⟩, rfl⟩
          refine O.p (Pu.move rfl) rfl ?_
          refine O.p (Pu.bneq Try.underlying4 rfl rfl) rfl ?_
          refine O.nil ?_
          refine J.condF rfl (by decide) ?_
          refine J.skip ?_
          refine J.region ?_
          refine O.p (Pu.move rfl) rfl ?_
          refine O.p (Pu.assign rfl) rfl ?_
          refine O.nil ?_
          refine J.blk ?_
          refine J.seq ?_
          refine J.region ?_
          refine O.p (Pu.move rfl) rfl ?_
          refine O.p (Pu.fieldAddr (off' := 1) Try.runUnderlying44 rfl Try.sizeOf3 rfl rfl rfl) rfl ?_
          refine O.q (Qt.ld rfl (Cel.var 2 rfl) (o := 0) (off := 1) rfl (Cut.one Try.isAgg3 rfl)) rfl ?_
          refine O.l (Lo.call [.pointer (some ⟨p5, 0, none⟩), .int .i64 e12.call] (by exact Try.call19) rfl (wt_Job p5 s27 (Wt.ins x e12.call e12.job) hR28 e12.call) [] [0, 1, 2, 3] (by decide) rfl [wt 62 p5 s27, row V25 98 2 ((Wt.ins x e12.call e12.job).map Pr.cells), var g13 [.int .i64 e12.kind, .int .i64 e12.call, .int .i64 e12.job] 44, row V 98 2 (x.map Pr.cells)] rfl (RoOk.of 0 rfl same_rd [] (by decide) rfl RoOk.nil)) rfl ?_
          rintro _ _ ⟨_, ⟨rfl, rfl⟩, rfl⟩
          refine O.p (Pu.move rfl) rfl ?_
          refine O.p (Pu.extract rfl rfl) rfl ?_
          refine O.p (Pu.extract rfl rfl) rfl ?_
          refine O.p (Pu.assign rfl) rfl ?_
          refine O.p (Pu.assign rfl) rfl ?_
          refine O.nil ?_
          refine J.seq ?_
          refine J.region ?_
          refine O.p (Pu.move rfl) rfl ?_
          refine O.p (Pu.fieldAddr (off' := 1) Try.runUnderlying44 rfl Try.sizeOf3 rfl rfl rfl) rfl ?_
          refine O.q (Qt.ld rfl (Cel.var 2 rfl) (o := 0) (off := 1) rfl (Cut.one Try.isAgg3 rfl)) rfl ?_
          refine O.l (Lo.call [V25, .int .i64 e12.call] (by exact Try.call25) rfl (r34_Job V25 (Wt.ins x e12.call e12.job) e12.call (by first | omega | (simp only [Wt.ins_len]; omega) | (refine Nat.le_trans Wt.ofJ_len ?_; first | omega | (simp; done) | (simp only [Wt.ins_len]; omega) | (refine Nat.le_trans Wt.without_len ?_; omega) | (refine Nat.le_trans Wt.drop_len ?_; omega)) | (refine Nat.le_trans Wt.without_len ?_; omega) | (refine Nat.le_trans Wt.drop_len ?_; omega) | (simp; done))) [] [0, 1, 2, 3] (by decide) rfl [wt 62 p5 s27, row V25 98 2 ((Wt.ins x e12.call e12.job).map Pr.cells), var g13 [.int .i64 e12.kind, .int .i64 e12.call, .int .i64 e12.job] 44, row V 98 2 (x.map Pr.cells)] rfl (RoOk.of 1 rfl row_rd [] (by decide) rfl RoOk.nil)) rfl ?_
          rintro _ _ ⟨_, ⟨rfl, rfl⟩, rfl⟩
          refine O.p (Pu.move rfl) rfl ?_
          refine O.p (Pu.extract rfl rfl) rfl ?_
          refine O.p (Pu.extract rfl rfl) rfl ?_
          refine O.p (Pu.assign rfl) rfl ?_
          refine O.p (Pu.assign rfl) rfl ?_
          refine O.nil ?_
          refine J.seq ?_
          refine J.drawMix [(0, false), (1, false), (2, false), (3, false), (4, false), (5, false), (6, false), (7, false), (8, false), (9, false), (10, false), (11, false), (13, false), (14, false), (15, false), (12, true), (16, true), (17, false), (18, false), (19, false), (20, false), (21, false), (22, false), (23, false), (24, false), (25, false), (26, false)] [0, 1, 2] [wt 62 p5 s27, row V25 98 2 ((Wt.ins x e12.call e12.job).map Pr.cells), var g13 [.int .i64 e12.kind, .int .i64 e12.call, .int .i64 e12.job] 44] Try.mixed (by kernel_rfl) (by decide) rfl ?_
          refine Mx.p rfl (Pu.move rfl) rfl ?_
          refine Mx.p rfl (Pu.move rfl) rfl ?_
          refine Mx.p rfl (Pu.neq rfl rfl) rfl ?_
          refine Mx.p rfl (Pu.move rfl) rfl ?_
          refine Mx.gq (t := 119) rfl rfl rfl (by simp) rfl (Pu.qt (Pu.move rfl)) rfl ?_
          refine Mx.gq (t := 119) rfl rfl rfl (by simp) rfl (Pu.qt (Pu.move rfl)) rfl ?_
          refine Mx.gq (t := 119) rfl rfl rfl (by simp) rfl (Pu.qt (Pu.bneq Try.underlying4 rfl rfl)) rfl ?_
          refine Mx.p rfl (Pu.pickF rfl (by simp) rfl) rfl ?_
          refine Mx.p rfl (Pu.move rfl) rfl ?_
          refine Mx.gq (t := 124) rfl rfl rfl (by simp) rfl (Pu.qt (Pu.move rfl)) rfl ?_
          refine Mx.gq (t := 124) rfl rfl rfl (by simp) rfl (Pu.qt (Pu.fieldAddr (off' := 2) Try.runUnderlying44 rfl Try.sizeOf3 rfl rfl rfl)) rfl ?_
          refine Mx.gq (t := 124) rfl rfl rfl (by simp) rfl (Qt.ld rfl (Cel.var 2 rfl) (o := 0) (off := 2) rfl (Cut.one Try.isAgg3 rfl)) rfl ?_
          refine Mx.gq (t := 124) rfl rfl rfl (by simp) rfl (Pu.qt (Pu.move rfl)) rfl ?_
          refine Mx.gq (t := 124) rfl rfl rfl (by simp) rfl (Pu.qt (Pu.fieldAddr (off' := 2) Try.runUnderlying44 rfl Try.sizeOf3 rfl rfl rfl)) rfl ?_
          refine Mx.gq (t := 124) rfl rfl rfl (by simp) rfl (Qt.ld rfl (Cel.var 2 rfl) (o := 0) (off := 2) rfl (Cut.one Try.isAgg3 rfl)) rfl ?_
          refine Mx.gl (t := 124) rfl rfl rfl (by simp) rfl (Lo.call [.pointer (some ⟨p5, 0, none⟩), .int .i64 e12.job] (by exact Try.call18) rfl (wt_Of p5 s27 (Wt.ins x e12.call e12.job) hR28 e12.job (by first | omega | (simp only [Wt.ins_len]; omega) | (refine Nat.le_trans Wt.ofJ_len ?_; first | omega | (simp; done) | (simp only [Wt.ins_len]; omega) | (refine Nat.le_trans Wt.without_len ?_; omega) | (refine Nat.le_trans Wt.drop_len ?_; omega)) | (refine Nat.le_trans Wt.without_len ?_; omega) | (refine Nat.le_trans Wt.drop_len ?_; omega) | (simp; done))) [] [0, 1, 2, 3] (by decide) rfl [wt 62 p5 s27, row V25 98 2 ((Wt.ins x e12.call e12.job).map Pr.cells), var g13 [.int .i64 e12.kind, .int .i64 e12.call, .int .i64 e12.job] 44, row V 98 2 (x.map Pr.cells)] rfl (RoOk.of 0 rfl same_rd [] (by decide) rfl RoOk.nil)) rfl ?_
          rintro v32 _ ⟨_, rfl, rfl⟩
          refine MxK.go [0, 1, 2, 3] [1, 2, 3] [row v32 3 1 ((Wt.ofJ (Wt.ins x e12.call e12.job) e12.job).map encZ), wt 62 p5 s27, row V25 98 2 ((Wt.ins x e12.call e12.job).map Pr.cells), var g13 [.int .i64 e12.kind, .int .i64 e12.call, .int .i64 e12.job] 44] (by decide) rfl (by decide) rfl ?_
          refine Mx.gl (t := 124) rfl rfl rfl (by simp) rfl (Lo.call [V25, .int .i64 e12.job] (by exact Try.call27) rfl (r34_Of V25 (Wt.ins x e12.call e12.job) e12.job (by first | omega | (simp only [Wt.ins_len]; omega) | (refine Nat.le_trans Wt.ofJ_len ?_; first | omega | (simp; done) | (simp only [Wt.ins_len]; omega) | (refine Nat.le_trans Wt.without_len ?_; omega) | (refine Nat.le_trans Wt.drop_len ?_; omega)) | (refine Nat.le_trans Wt.without_len ?_; omega) | (refine Nat.le_trans Wt.drop_len ?_; omega) | (simp; done))) [] [0, 1, 2, 3, 4] (by decide) rfl [row v32 3 1 ((Wt.ofJ (Wt.ins x e12.call e12.job) e12.job).map encZ), wt 62 p5 s27, row V25 98 2 ((Wt.ins x e12.call e12.job).map Pr.cells), var g13 [.int .i64 e12.kind, .int .i64 e12.call, .int .i64 e12.job] 44, row V 98 2 (x.map Pr.cells)] rfl (RoOk.of 2 rfl row_rd [] (by decide) rfl RoOk.nil)) rfl ?_
          rintro v33 _ ⟨_, rfl, rfl⟩
          refine MxK.go [0, 1, 2, 3, 4] [1, 2, 3, 4] [row v33 3 1 ((Wt.ofJ (Wt.ins x e12.call e12.job) e12.job).map encZ), row v32 3 1 ((Wt.ofJ (Wt.ins x e12.call e12.job) e12.job).map encZ), wt 62 p5 s27, row V25 98 2 ((Wt.ins x e12.call e12.job).map Pr.cells), var g13 [.int .i64 e12.kind, .int .i64 e12.call, .int .i64 e12.job] 44] (by decide) rfl (by decide) rfl ?_
          refine Mx.gcall (vs := [v32, v33]) (caps := []) (t := 124) rfl rfl rfl (by simp) rfl (by exact Try.call23) rfl rfl (n01_Same v32 v33 (Wt.ofJ (Wt.ins x e12.call e12.job) e12.job) (Wt.ofJ (Wt.ins x e12.call e12.job) e12.job) (by first | omega | (simp only [Wt.ins_len]; omega) | (refine Nat.le_trans Wt.ofJ_len ?_; first | omega | (simp; done) | (simp only [Wt.ins_len]; omega) | (refine Nat.le_trans Wt.without_len ?_; omega) | (refine Nat.le_trans Wt.drop_len ?_; omega)) | (refine Nat.le_trans Wt.without_len ?_; omega) | (refine Nat.le_trans Wt.drop_len ?_; omega) | (simp; done)) (by first | omega | (simp only [Wt.ins_len]; omega) | (refine Nat.le_trans Wt.ofJ_len ?_; first | omega | (simp; done) | (simp only [Wt.ins_len]; omega) | (refine Nat.le_trans Wt.without_len ?_; omega) | (refine Nat.le_trans Wt.drop_len ?_; omega)) | (refine Nat.le_trans Wt.without_len ?_; omega) | (refine Nat.le_trans Wt.drop_len ?_; omega) | (simp; done))) (fun _ _ h => h) (RoOk.of 1 rfl row_rd [] (by decide) rfl (RoOk.of 0 rfl row_rd [] (by decide) rfl RoOk.nil)) rfl ?_
          refine Mx.gq (t := 124) rfl rfl rfl (by simp) rfl (Pu.qt (Pu.not rfl)) rfl ?_
          refine Mx.p rfl (Pu.pickF rfl (by simp) rfl) rfl ?_
          refine Mx.p rfl (Pu.move rfl) rfl ?_
          refine Mx.gq (t := 136) rfl rfl rfl (not_of_true (by simp)) rfl (Pu.qt (Pu.move rfl)) rfl ?_
          refine Mx.gcall (vs := [.pointer (some ⟨p5, 0, none⟩)]) (caps := []) (t := 136) rfl rfl rfl (not_of_true (by simp)) rfl (by exact Try.call30) rfl rfl (wt_Len p5 s27 (Wt.ins x e12.call e12.job) hR28) (fun _ _ h => h) (RoOk.of 2 rfl same_rd [] (by decide) rfl RoOk.nil) rfl ?_
          refine Mx.gq (t := 136) rfl rfl rfl (not_of_true (by simp)) rfl (Pu.qt (Pu.move rfl)) rfl ?_
          refine Mx.gq (t := 136) rfl rfl rfl (not_of_true (by simp)) rfl (Qt.lenM Try.runUnderlying51 rfl (Src.row 3 rfl)) rfl ?_
          refine Mx.gq (t := 136) rfl rfl rfl (not_of_true (by simp)) rfl (Pu.qt (Pu.neq rfl rfl)) rfl ?_
          refine Mx.p rfl (Pu.pickF rfl (not_of_true (by simp)) rfl) rfl ?_
          refine Mx.nil ?_
          refine J.condF rfl (by simp) ?_
          refine J.skip ?_
          refine J.blk ?_
          refine J.region ?_
          refine O.p (Pu.move rfl) rfl ?_
          refine O.p (Pu.add' rfl rfl (by first | omega | (simp only [List.length_append, List.length_cons, List.length_nil, List.length_set]; omega))) rfl ?_
          refine O.p (Pu.assign rfl) rfl ?_
          refine O.nil ?_
          exact J.lp ⟨i + 1, s27, V25, Wt.ins x e12.call e12.job⟩ (show (i + 1) ≤ l.length ∧ Wt.Rep (Wt.ins x e12.call e12.job) s27 ∧ (Wt.ins x e12.call e12.job).length ≤ (i + 1) from ⟨by omega, hR28, (by first | omega | (simp only [Wt.ins_len]; omega) | (refine Nat.le_trans Wt.ofJ_len ?_; first | omega | (simp; done) | (simp only [Wt.ins_len]; omega) | (refine Nat.le_trans Wt.without_len ?_; omega) | (refine Nat.le_trans Wt.drop_len ?_; omega)) | (refine Nat.le_trans Wt.without_len ?_; omega) | (refine Nat.le_trans Wt.drop_len ?_; omega) | (simp; done))⟩) (show l.length - (i + 1) < l.length - i from (by omega)) ⟨rfl, rfl, rfl, (congrArg (fun z => some (Value.int .i64 z)) (by first | rfl | omega : ((i : Int) + 1 : Int) = ((i + 1) : Int))), trivial⟩ [2, 3] (by decide) rfl
      ·
        have p34 := of_decide_eq_false h14
        refine J.seq ?_
        refine J.region ?_
        refine O.p (Pu.eql rfl rfl) rfl ?_
        refine O.p (Pu.assign rfl) rfl ?_
        refine O.nil ?_
        refine J.cond rfl (fun h35 => ?_) (fun h35 => ?_)
        ·
          have p36 := of_decide_eq_true h35
          refine J.seq ?_
          refine J.region ?_
          refine O.p (Pu.move rfl) rfl ?_
          refine O.p (Pu.fieldAddr (off' := 1) Try.runUnderlying44 rfl Try.sizeOf3 rfl rfl rfl) rfl ?_
          refine O.q (Qt.ld rfl (Cel.var 0 rfl) (o := 0) (off := 1) rfl (Cut.one Try.isAgg3 rfl)) rfl ?_
          refine O.l (Lo.call [.pointer (some ⟨p5, 0, none⟩), .int .i64 e12.call] (by exact Try.call21) rfl (wt_Take p5 s x hR e12.call) [1] [0, 2] (by decide) rfl [var g13 [.int .i64 e12.kind, .int .i64 e12.call, .int .i64 e12.job] 44, row V 98 2 (x.map Pr.cells)] rfl RoOk.nil) rfl ?_
          rintro _ _ ⟨_, ⟨rfl, s37, hR38, rfl⟩, rfl⟩
          refine O.p (Pu.move rfl) rfl ?_
          refine O.p (Pu.extract rfl rfl) rfl ?_
          refine O.p (Pu.extract rfl rfl) rfl ?_
          refine O.p (Pu.assign rfl) rfl ?_
          refine O.p (Pu.assign rfl) rfl ?_
          refine O.nil ?_
          refine J.seq ?_
          refine J.region ?_
          refine O.p (Pu.move rfl) rfl ?_
          refine O.p (Pu.fieldAddr (off' := 1) Try.runUnderlying44 rfl Try.sizeOf3 rfl rfl rfl) rfl ?_
          refine O.q (Qt.ld rfl (Cel.var 1 rfl) (o := 0) (off := 1) rfl (Cut.one Try.isAgg3 rfl)) rfl ?_
          refine O.l (Lo.call [V, .int .i64 e12.call] (by exact Try.call25) rfl (r34_Job V x e12.call (by first | omega | (simp only [Wt.ins_len]; omega) | (refine Nat.le_trans Wt.ofJ_len ?_; first | omega | (simp; done) | (simp only [Wt.ins_len]; omega) | (refine Nat.le_trans Wt.without_len ?_; omega) | (refine Nat.le_trans Wt.drop_len ?_; omega)) | (refine Nat.le_trans Wt.without_len ?_; omega) | (refine Nat.le_trans Wt.drop_len ?_; omega) | (simp; done))) [] [0, 1, 2] (by decide) rfl [wt 62 p5 s37, var g13 [.int .i64 e12.kind, .int .i64 e12.call, .int .i64 e12.job] 44, row V 98 2 (x.map Pr.cells)] rfl (RoOk.of 2 rfl row_rd [] (by decide) rfl RoOk.nil)) rfl ?_
          rintro _ _ ⟨_, ⟨rfl, rfl⟩, rfl⟩
          refine O.p (Pu.move rfl) rfl ?_
          refine O.p (Pu.extract rfl rfl) rfl ?_
          refine O.p (Pu.extract rfl rfl) rfl ?_
          refine O.p (Pu.assign rfl) rfl ?_
          refine O.p (Pu.assign rfl) rfl ?_
          refine O.nil ?_
          refine J.seq ?_
          refine J.seq ?_
          refine J.region ?_
          refine O.p (Pu.move rfl) rfl ?_
          refine O.p (Pu.move rfl) rfl ?_
          refine O.p (Pu.neq rfl rfl) rfl ?_
          refine O.p (Pu.move rfl) rfl ?_
          refine O.gq (t := 73) rfl rfl (by simp) rfl (Pu.qt (Pu.move rfl)) rfl ?_
          refine O.gq (t := 73) rfl rfl (by simp) rfl (Pu.qt (Pu.move rfl)) rfl ?_
          refine O.gq (t := 73) rfl rfl (by simp) rfl (Pu.qt (Pu.bneq Try.underlying4 rfl rfl)) rfl ?_
          refine O.p (Pu.pickF rfl (by simp) rfl) rfl ?_
          refine O.nil ?_
          refine J.condF rfl (by simp) ?_
          refine J.skip ?_
          refine J.region ?_
          refine O.p (Pu.move rfl) rfl ?_
          refine O.p (Pu.fieldAddr (off' := 1) Try.runUnderlying44 rfl Try.sizeOf3 rfl rfl rfl) rfl ?_
          refine O.q (Qt.ld rfl (Cel.var 1 rfl) (o := 0) (off := 1) rfl (Cut.one Try.isAgg3 rfl)) rfl ?_
          refine O.l (Lo.call [V, .int .i64 e12.call] (by exact Try.call26) rfl (r34_Without V x e12.call (by first | omega | (simp only [Wt.ins_len]; omega) | (refine Nat.le_trans Wt.ofJ_len ?_; first | omega | (simp; done) | (simp only [Wt.ins_len]; omega) | (refine Nat.le_trans Wt.without_len ?_; omega) | (refine Nat.le_trans Wt.drop_len ?_; omega)) | (refine Nat.le_trans Wt.without_len ?_; omega) | (refine Nat.le_trans Wt.drop_len ?_; omega) | (simp; done))) [] [0, 1, 2] (by decide) rfl [wt 62 p5 s37, var g13 [.int .i64 e12.kind, .int .i64 e12.call, .int .i64 e12.job] 44, row V 98 2 (x.map Pr.cells)] rfl (RoOk.of 2 rfl row_rd [] (by decide) rfl RoOk.nil)) rfl ?_
          rintro v41 _ ⟨_, rfl, rfl⟩
          refine O.p (Pu.assign rfl) rfl ?_
          refine O.nil ?_
          refine J.blk ?_
          refine J.seq ?_
          refine J.region ?_
          refine O.p (Pu.move rfl) rfl ?_
          refine O.p (Pu.fieldAddr (off' := 1) Try.runUnderlying44 rfl Try.sizeOf3 rfl rfl rfl) rfl ?_
          refine O.q (Qt.ld rfl (Cel.var 2 rfl) (o := 0) (off := 1) rfl (Cut.one Try.isAgg3 rfl)) rfl ?_
          refine O.l (Lo.call [.pointer (some ⟨p5, 0, none⟩), .int .i64 e12.call] (by exact Try.call19) rfl (wt_Job p5 s37 (Wt.without x e12.call) hR38 e12.call) [] [0, 1, 2, 3] (by decide) rfl [row v41 98 2 ((Wt.without x e12.call).map Pr.cells), wt 62 p5 s37, var g13 [.int .i64 e12.kind, .int .i64 e12.call, .int .i64 e12.job] 44, row V 98 2 (x.map Pr.cells)] rfl (RoOk.of 1 rfl same_rd [] (by decide) rfl RoOk.nil)) rfl ?_
          rintro _ _ ⟨_, ⟨rfl, rfl⟩, rfl⟩
          refine O.p (Pu.move rfl) rfl ?_
          refine O.p (Pu.extract rfl rfl) rfl ?_
          refine O.p (Pu.extract rfl rfl) rfl ?_
          refine O.p (Pu.assign rfl) rfl ?_
          refine O.p (Pu.assign rfl) rfl ?_
          refine O.nil ?_
          refine J.seq ?_
          refine J.region ?_
          refine O.p (Pu.move rfl) rfl ?_
          refine O.p (Pu.fieldAddr (off' := 1) Try.runUnderlying44 rfl Try.sizeOf3 rfl rfl rfl) rfl ?_
          refine O.q (Qt.ld rfl (Cel.var 2 rfl) (o := 0) (off := 1) rfl (Cut.one Try.isAgg3 rfl)) rfl ?_
          refine O.l (Lo.call [v41, .int .i64 e12.call] (by exact Try.call25) rfl (r34_Job v41 (Wt.without x e12.call) e12.call (by first | omega | (simp only [Wt.ins_len]; omega) | (refine Nat.le_trans Wt.ofJ_len ?_; first | omega | (simp; done) | (simp only [Wt.ins_len]; omega) | (refine Nat.le_trans Wt.without_len ?_; omega) | (refine Nat.le_trans Wt.drop_len ?_; omega)) | (refine Nat.le_trans Wt.without_len ?_; omega) | (refine Nat.le_trans Wt.drop_len ?_; omega) | (simp; done))) [] [0, 1, 2, 3] (by decide) rfl [row v41 98 2 ((Wt.without x e12.call).map Pr.cells), wt 62 p5 s37, var g13 [.int .i64 e12.kind, .int .i64 e12.call, .int .i64 e12.job] 44, row V 98 2 (x.map Pr.cells)] rfl (RoOk.of 0 rfl row_rd [] (by decide) rfl RoOk.nil)) rfl ?_
          rintro _ _ ⟨_, ⟨rfl, rfl⟩, rfl⟩
          refine O.p (Pu.move rfl) rfl ?_
          refine O.p (Pu.extract rfl rfl) rfl ?_
          refine O.p (Pu.extract rfl rfl) rfl ?_
          refine O.p (Pu.assign rfl) rfl ?_
          refine O.p (Pu.assign rfl) rfl ?_
          refine O.nil ?_
          refine J.seq ?_
          refine J.drawMix [(0, false), (1, false), (2, false), (3, false), (4, false), (5, false), (6, false), (7, false), (8, false), (9, false), (10, false), (11, false), (13, false), (14, false), (15, false), (12, true), (16, true), (17, false), (18, false), (19, false), (20, false), (21, false), (22, false), (23, false), (24, false), (25, false), (26, false)] [0, 1, 2] [row v41 98 2 ((Wt.without x e12.call).map Pr.cells), wt 62 p5 s37, var g13 [.int .i64 e12.kind, .int .i64 e12.call, .int .i64 e12.job] 44] Try.mixed (by kernel_rfl) (by decide) rfl ?_
          refine Mx.p rfl (Pu.move rfl) rfl ?_
          refine Mx.p rfl (Pu.move rfl) rfl ?_
          refine Mx.p rfl (Pu.neq rfl rfl) rfl ?_
          refine Mx.p rfl (Pu.move rfl) rfl ?_
          refine Mx.gq (t := 119) rfl rfl rfl (by simp) rfl (Pu.qt (Pu.move rfl)) rfl ?_
          refine Mx.gq (t := 119) rfl rfl rfl (by simp) rfl (Pu.qt (Pu.move rfl)) rfl ?_
          refine Mx.gq (t := 119) rfl rfl rfl (by simp) rfl (Pu.qt (Pu.bneq Try.underlying4 rfl rfl)) rfl ?_
          refine Mx.p rfl (Pu.pickF rfl (by simp) rfl) rfl ?_
          refine Mx.p rfl (Pu.move rfl) rfl ?_
          refine Mx.gq (t := 124) rfl rfl rfl (by simp) rfl (Pu.qt (Pu.move rfl)) rfl ?_
          refine Mx.gq (t := 124) rfl rfl rfl (by simp) rfl (Pu.qt (Pu.fieldAddr (off' := 2) Try.runUnderlying44 rfl Try.sizeOf3 rfl rfl rfl)) rfl ?_
          refine Mx.gq (t := 124) rfl rfl rfl (by simp) rfl (Qt.ld rfl (Cel.var 2 rfl) (o := 0) (off := 2) rfl (Cut.one Try.isAgg3 rfl)) rfl ?_
          refine Mx.gq (t := 124) rfl rfl rfl (by simp) rfl (Pu.qt (Pu.move rfl)) rfl ?_
          refine Mx.gq (t := 124) rfl rfl rfl (by simp) rfl (Pu.qt (Pu.fieldAddr (off' := 2) Try.runUnderlying44 rfl Try.sizeOf3 rfl rfl rfl)) rfl ?_
          refine Mx.gq (t := 124) rfl rfl rfl (by simp) rfl (Qt.ld rfl (Cel.var 2 rfl) (o := 0) (off := 2) rfl (Cut.one Try.isAgg3 rfl)) rfl ?_
          refine Mx.gl (t := 124) rfl rfl rfl (by simp) rfl (Lo.call [.pointer (some ⟨p5, 0, none⟩), .int .i64 e12.job] (by exact Try.call18) rfl (wt_Of p5 s37 (Wt.without x e12.call) hR38 e12.job (by first | omega | (simp only [Wt.ins_len]; omega) | (refine Nat.le_trans Wt.ofJ_len ?_; first | omega | (simp; done) | (simp only [Wt.ins_len]; omega) | (refine Nat.le_trans Wt.without_len ?_; omega) | (refine Nat.le_trans Wt.drop_len ?_; omega)) | (refine Nat.le_trans Wt.without_len ?_; omega) | (refine Nat.le_trans Wt.drop_len ?_; omega) | (simp; done))) [] [0, 1, 2, 3] (by decide) rfl [row v41 98 2 ((Wt.without x e12.call).map Pr.cells), wt 62 p5 s37, var g13 [.int .i64 e12.kind, .int .i64 e12.call, .int .i64 e12.job] 44, row V 98 2 (x.map Pr.cells)] rfl (RoOk.of 1 rfl same_rd [] (by decide) rfl RoOk.nil)) rfl ?_
          rintro v44 _ ⟨_, rfl, rfl⟩
          refine MxK.go [0, 1, 2, 3] [1, 2, 3] [row v44 3 1 ((Wt.ofJ (Wt.without x e12.call) e12.job).map encZ), row v41 98 2 ((Wt.without x e12.call).map Pr.cells), wt 62 p5 s37, var g13 [.int .i64 e12.kind, .int .i64 e12.call, .int .i64 e12.job] 44] (by decide) rfl (by decide) rfl ?_
          refine Mx.gl (t := 124) rfl rfl rfl (by simp) rfl (Lo.call [v41, .int .i64 e12.job] (by exact Try.call27) rfl (r34_Of v41 (Wt.without x e12.call) e12.job (by first | omega | (simp only [Wt.ins_len]; omega) | (refine Nat.le_trans Wt.ofJ_len ?_; first | omega | (simp; done) | (simp only [Wt.ins_len]; omega) | (refine Nat.le_trans Wt.without_len ?_; omega) | (refine Nat.le_trans Wt.drop_len ?_; omega)) | (refine Nat.le_trans Wt.without_len ?_; omega) | (refine Nat.le_trans Wt.drop_len ?_; omega) | (simp; done))) [] [0, 1, 2, 3, 4] (by decide) rfl [row v44 3 1 ((Wt.ofJ (Wt.without x e12.call) e12.job).map encZ), row v41 98 2 ((Wt.without x e12.call).map Pr.cells), wt 62 p5 s37, var g13 [.int .i64 e12.kind, .int .i64 e12.call, .int .i64 e12.job] 44, row V 98 2 (x.map Pr.cells)] rfl (RoOk.of 1 rfl row_rd [] (by decide) rfl RoOk.nil)) rfl ?_
          rintro v45 _ ⟨_, rfl, rfl⟩
          refine MxK.go [0, 1, 2, 3, 4] [1, 2, 3, 4] [row v45 3 1 ((Wt.ofJ (Wt.without x e12.call) e12.job).map encZ), row v44 3 1 ((Wt.ofJ (Wt.without x e12.call) e12.job).map encZ), row v41 98 2 ((Wt.without x e12.call).map Pr.cells), wt 62 p5 s37, var g13 [.int .i64 e12.kind, .int .i64 e12.call, .int .i64 e12.job] 44] (by decide) rfl (by decide) rfl ?_
          refine Mx.gcall (vs := [v44, v45]) (caps := []) (t := 124) rfl rfl rfl (by simp) rfl (by exact Try.call23) rfl rfl (n01_Same v44 v45 (Wt.ofJ (Wt.without x e12.call) e12.job) (Wt.ofJ (Wt.without x e12.call) e12.job) (by first | omega | (simp only [Wt.ins_len]; omega) | (refine Nat.le_trans Wt.ofJ_len ?_; first | omega | (simp; done) | (simp only [Wt.ins_len]; omega) | (refine Nat.le_trans Wt.without_len ?_; omega) | (refine Nat.le_trans Wt.drop_len ?_; omega)) | (refine Nat.le_trans Wt.without_len ?_; omega) | (refine Nat.le_trans Wt.drop_len ?_; omega) | (simp; done)) (by first | omega | (simp only [Wt.ins_len]; omega) | (refine Nat.le_trans Wt.ofJ_len ?_; first | omega | (simp; done) | (simp only [Wt.ins_len]; omega) | (refine Nat.le_trans Wt.without_len ?_; omega) | (refine Nat.le_trans Wt.drop_len ?_; omega)) | (refine Nat.le_trans Wt.without_len ?_; omega) | (refine Nat.le_trans Wt.drop_len ?_; omega) | (simp; done))) (fun _ _ h => h) (RoOk.of 1 rfl row_rd [] (by decide) rfl (RoOk.of 0 rfl row_rd [] (by decide) rfl RoOk.nil)) rfl ?_
          refine Mx.gq (t := 124) rfl rfl rfl (by simp) rfl (Pu.qt (Pu.not rfl)) rfl ?_
          refine Mx.p rfl (Pu.pickF rfl (by simp) rfl) rfl ?_
          refine Mx.p rfl (Pu.move rfl) rfl ?_
          refine Mx.gq (t := 136) rfl rfl rfl (not_of_true (by simp)) rfl (Pu.qt (Pu.move rfl)) rfl ?_
          refine Mx.gcall (vs := [.pointer (some ⟨p5, 0, none⟩)]) (caps := []) (t := 136) rfl rfl rfl (not_of_true (by simp)) rfl (by exact Try.call30) rfl rfl (wt_Len p5 s37 (Wt.without x e12.call) hR38) (fun _ _ h => h) (RoOk.of 3 rfl same_rd [] (by decide) rfl RoOk.nil) rfl ?_
          refine Mx.gq (t := 136) rfl rfl rfl (not_of_true (by simp)) rfl (Pu.qt (Pu.move rfl)) rfl ?_
          refine Mx.gq (t := 136) rfl rfl rfl (not_of_true (by simp)) rfl (Qt.lenM Try.runUnderlying51 rfl (Src.row 2 rfl)) rfl ?_
          refine Mx.gq (t := 136) rfl rfl rfl (not_of_true (by simp)) rfl (Pu.qt (Pu.neq rfl rfl)) rfl ?_
          refine Mx.p rfl (Pu.pickF rfl (not_of_true (by simp)) rfl) rfl ?_
          refine Mx.nil ?_
          refine J.condF rfl (by simp) ?_
          refine J.skip ?_
          refine J.blk ?_
          refine J.region ?_
          refine O.p (Pu.move rfl) rfl ?_
          refine O.p (Pu.add' rfl rfl (by first | omega | (simp only [List.length_append, List.length_cons, List.length_nil, List.length_set]; omega))) rfl ?_
          refine O.p (Pu.assign rfl) rfl ?_
          refine O.nil ?_
          exact J.lp ⟨i + 1, s37, v41, Wt.without x e12.call⟩ (show (i + 1) ≤ l.length ∧ Wt.Rep (Wt.without x e12.call) s37 ∧ (Wt.without x e12.call).length ≤ (i + 1) from ⟨by omega, hR38, (by first | omega | (simp only [Wt.ins_len]; omega) | (refine Nat.le_trans Wt.ofJ_len ?_; first | omega | (simp; done) | (simp only [Wt.ins_len]; omega) | (refine Nat.le_trans Wt.without_len ?_; omega) | (refine Nat.le_trans Wt.drop_len ?_; omega)) | (refine Nat.le_trans Wt.without_len ?_; omega) | (refine Nat.le_trans Wt.drop_len ?_; omega) | (simp; done))⟩) (show l.length - (i + 1) < l.length - i from (by omega)) ⟨rfl, rfl, rfl, (congrArg (fun z => some (Value.int .i64 z)) (by first | rfl | omega : ((i : Int) + 1 : Int) = ((i + 1) : Int))), trivial⟩ [3, 2] (by decide) rfl
        ·
          have p46 := of_decide_eq_false h35
          refine J.seq ?_
          refine J.region ?_
          refine O.p (Pu.eql rfl rfl) rfl ?_
          refine O.p (Pu.assign rfl) rfl ?_
          refine O.nil ?_
          refine J.cond rfl (fun h47 => ?_) (fun h47 => ?_)
          ·
            have p48 := of_decide_eq_true h47
            refine J.seq ?_
            refine J.seq ?_
            refine J.drawMix [(0, false), (1, false), (2, false), (4, false), (5, false), (6, false), (3, true), (7, true), (8, false), (9, false)] [0] [var g13 [.int .i64 e12.kind, .int .i64 e12.call, .int .i64 e12.job] 44] Try.mixed (by kernel_rfl) (by decide) rfl ?_
            refine Mx.p rfl (Pu.move rfl) rfl ?_
            refine Mx.p rfl (Pu.fieldAddr (off' := 2) Try.runUnderlying44 rfl Try.sizeOf3 rfl rfl rfl) rfl ?_
            refine Mx.q rfl (Qt.ld rfl (Cel.var 0 rfl) (o := 0) (off := 2) rfl (Cut.one Try.isAgg3 rfl)) rfl ?_
            refine Mx.p rfl (Pu.move rfl) rfl ?_
            refine Mx.p rfl (Pu.fieldAddr (off' := 2) Try.runUnderlying44 rfl Try.sizeOf3 rfl rfl rfl) rfl ?_
            refine Mx.q rfl (Qt.ld rfl (Cel.var 0 rfl) (o := 0) (off := 2) rfl (Cut.one Try.isAgg3 rfl)) rfl ?_
            refine Mx.l rfl (Lo.call [.pointer (some ⟨p5, 0, none⟩), .int .i64 e12.job] (by exact Try.call22) rfl (wt_Drop p5 s x hR e12.job (by first | omega | (simp only [Wt.ins_len]; omega) | (refine Nat.le_trans Wt.ofJ_len ?_; first | omega | (simp; done) | (simp only [Wt.ins_len]; omega) | (refine Nat.le_trans Wt.without_len ?_; omega) | (refine Nat.le_trans Wt.drop_len ?_; omega)) | (refine Nat.le_trans Wt.without_len ?_; omega) | (refine Nat.le_trans Wt.drop_len ?_; omega) | (simp; done))) [1] [0, 2] (by decide) rfl [var g13 [.int .i64 e12.kind, .int .i64 e12.call, .int .i64 e12.job] 44, row V 98 2 (x.map Pr.cells)] rfl RoOk.nil) rfl ?_
            rintro v51 _ ⟨_, ⟨s49, hR50, rfl⟩, rfl⟩
            refine MxK.go [0, 2] [1] [row v51 3 1 ((Wt.ofJ x e12.job).map encZ), var g13 [.int .i64 e12.kind, .int .i64 e12.call, .int .i64 e12.job] 44] (by decide) rfl (by decide) rfl ?_
            refine Mx.l rfl (Lo.call [V, .int .i64 e12.job] (by exact Try.call27) rfl (r34_Of V x e12.job (by first | omega | (simp only [Wt.ins_len]; omega) | (refine Nat.le_trans Wt.ofJ_len ?_; first | omega | (simp; done) | (simp only [Wt.ins_len]; omega) | (refine Nat.le_trans Wt.without_len ?_; omega) | (refine Nat.le_trans Wt.drop_len ?_; omega)) | (refine Nat.le_trans Wt.without_len ?_; omega) | (refine Nat.le_trans Wt.drop_len ?_; omega) | (simp; done))) [] [0, 1, 2, 3] (by decide) rfl [row v51 3 1 ((Wt.ofJ x e12.job).map encZ), wt 62 p5 s49, var g13 [.int .i64 e12.kind, .int .i64 e12.call, .int .i64 e12.job] 44, row V 98 2 (x.map Pr.cells)] rfl (RoOk.of 3 rfl row_rd [] (by decide) rfl RoOk.nil)) rfl ?_
            rintro v52 _ ⟨_, rfl, rfl⟩
            refine MxK.go [0, 1, 3] [1, 2] [row v52 3 1 ((Wt.ofJ x e12.job).map encZ), row v51 3 1 ((Wt.ofJ x e12.job).map encZ), var g13 [.int .i64 e12.kind, .int .i64 e12.call, .int .i64 e12.job] 44] (by decide) rfl (by decide) rfl ?_
            refine Mx.call (vs := [v51, v52]) (caps := []) rfl (by exact Try.call23) rfl rfl (n01_Same v51 v52 (Wt.ofJ x e12.job) (Wt.ofJ x e12.job) (by first | omega | (simp only [Wt.ins_len]; omega) | (refine Nat.le_trans Wt.ofJ_len ?_; first | omega | (simp; done) | (simp only [Wt.ins_len]; omega) | (refine Nat.le_trans Wt.without_len ?_; omega) | (refine Nat.le_trans Wt.drop_len ?_; omega)) | (refine Nat.le_trans Wt.without_len ?_; omega) | (refine Nat.le_trans Wt.drop_len ?_; omega) | (simp; done)) (by first | omega | (simp only [Wt.ins_len]; omega) | (refine Nat.le_trans Wt.ofJ_len ?_; first | omega | (simp; done) | (simp only [Wt.ins_len]; omega) | (refine Nat.le_trans Wt.without_len ?_; omega) | (refine Nat.le_trans Wt.drop_len ?_; omega)) | (refine Nat.le_trans Wt.without_len ?_; omega) | (refine Nat.le_trans Wt.drop_len ?_; omega) | (simp; done))) (fun _ _ h => h) (RoOk.of 1 rfl row_rd [] (by decide) rfl (RoOk.of 0 rfl row_rd [] (by decide) rfl RoOk.nil)) rfl ?_
            refine Mx.p rfl (Pu.not rfl) rfl ?_
            refine Mx.nil ?_
            refine J.condF rfl (not_of_true (by simp)) ?_
            refine J.skip ?_
            refine J.region ?_
            refine O.p (Pu.move rfl) rfl ?_
            refine O.p (Pu.fieldAddr (off' := 2) Try.runUnderlying44 rfl Try.sizeOf3 rfl rfl rfl) rfl ?_
            refine O.q (Qt.ld rfl (Cel.var 3 rfl) (o := 0) (off := 2) rfl (Cut.one Try.isAgg3 rfl)) rfl ?_
            refine O.l (Lo.call [V, .int .i64 e12.job] (by exact Try.call28) rfl (r34_Drop V x e12.job (by first | omega | (simp only [Wt.ins_len]; omega) | (refine Nat.le_trans Wt.ofJ_len ?_; first | omega | (simp; done) | (simp only [Wt.ins_len]; omega) | (refine Nat.le_trans Wt.without_len ?_; omega) | (refine Nat.le_trans Wt.drop_len ?_; omega)) | (refine Nat.le_trans Wt.without_len ?_; omega) | (refine Nat.le_trans Wt.drop_len ?_; omega) | (simp; done))) [] [0, 1, 2, 3, 4] (by decide) rfl [row v52 3 1 ((Wt.ofJ x e12.job).map encZ), row v51 3 1 ((Wt.ofJ x e12.job).map encZ), wt 62 p5 s49, var g13 [.int .i64 e12.kind, .int .i64 e12.call, .int .i64 e12.job] 44, row V 98 2 (x.map Pr.cells)] rfl (RoOk.of 4 rfl row_rd [] (by decide) rfl RoOk.nil)) rfl ?_
            rintro v53 _ ⟨_, rfl, rfl⟩
            refine O.p (Pu.assign rfl) rfl ?_
            refine O.nil ?_
            refine J.blk ?_
            refine J.seq ?_
            refine J.region ?_
            refine O.p (Pu.move rfl) rfl ?_
            refine O.p (Pu.fieldAddr (off' := 1) Try.runUnderlying44 rfl Try.sizeOf3 rfl rfl rfl) rfl ?_
            refine O.q (Qt.ld rfl (Cel.var 4 rfl) (o := 0) (off := 1) rfl (Cut.one Try.isAgg3 rfl)) rfl ?_
            refine O.l (Lo.call [.pointer (some ⟨p5, 0, none⟩), .int .i64 e12.call] (by exact Try.call19) rfl (wt_Job p5 s49 (Wt.drop x e12.job) hR50 e12.call) [] [0, 1, 2, 3, 4, 5] (by decide) rfl [row v53 98 2 ((Wt.drop x e12.job).map Pr.cells), row v52 3 1 ((Wt.ofJ x e12.job).map encZ), row v51 3 1 ((Wt.ofJ x e12.job).map encZ), wt 62 p5 s49, var g13 [.int .i64 e12.kind, .int .i64 e12.call, .int .i64 e12.job] 44, row V 98 2 (x.map Pr.cells)] rfl (RoOk.of 3 rfl same_rd [] (by decide) rfl RoOk.nil)) rfl ?_
            rintro _ _ ⟨_, ⟨rfl, rfl⟩, rfl⟩
            refine O.p (Pu.move rfl) rfl ?_
            refine O.p (Pu.extract rfl rfl) rfl ?_
            refine O.p (Pu.extract rfl rfl) rfl ?_
            refine O.p (Pu.assign rfl) rfl ?_
            refine O.p (Pu.assign rfl) rfl ?_
            refine O.nil ?_
            refine J.seq ?_
            refine J.region ?_
            refine O.p (Pu.move rfl) rfl ?_
            refine O.p (Pu.fieldAddr (off' := 1) Try.runUnderlying44 rfl Try.sizeOf3 rfl rfl rfl) rfl ?_
            refine O.q (Qt.ld rfl (Cel.var 4 rfl) (o := 0) (off := 1) rfl (Cut.one Try.isAgg3 rfl)) rfl ?_
            refine O.l (Lo.call [v53, .int .i64 e12.call] (by exact Try.call25) rfl (r34_Job v53 (Wt.drop x e12.job) e12.call (by first | omega | (simp only [Wt.ins_len]; omega) | (refine Nat.le_trans Wt.ofJ_len ?_; first | omega | (simp; done) | (simp only [Wt.ins_len]; omega) | (refine Nat.le_trans Wt.without_len ?_; omega) | (refine Nat.le_trans Wt.drop_len ?_; omega)) | (refine Nat.le_trans Wt.without_len ?_; omega) | (refine Nat.le_trans Wt.drop_len ?_; omega) | (simp; done))) [] [0, 1, 2, 3, 4, 5] (by decide) rfl [row v53 98 2 ((Wt.drop x e12.job).map Pr.cells), row v52 3 1 ((Wt.ofJ x e12.job).map encZ), row v51 3 1 ((Wt.ofJ x e12.job).map encZ), wt 62 p5 s49, var g13 [.int .i64 e12.kind, .int .i64 e12.call, .int .i64 e12.job] 44, row V 98 2 (x.map Pr.cells)] rfl (RoOk.of 0 rfl row_rd [] (by decide) rfl RoOk.nil)) rfl ?_
            rintro _ _ ⟨_, ⟨rfl, rfl⟩, rfl⟩
            refine O.p (Pu.move rfl) rfl ?_
            refine O.p (Pu.extract rfl rfl) rfl ?_
            refine O.p (Pu.extract rfl rfl) rfl ?_
            refine O.p (Pu.assign rfl) rfl ?_
            refine O.p (Pu.assign rfl) rfl ?_
            refine O.nil ?_
            refine J.seq ?_
            refine J.drawMix [(0, false), (1, false), (2, false), (3, false), (4, false), (5, false), (6, false), (7, false), (8, false), (9, false), (10, false), (11, false), (13, false), (14, false), (15, false), (12, true), (16, true), (17, false), (18, false), (19, false), (20, false), (21, false), (22, false), (23, false), (24, false), (25, false), (26, false)] [0, 3, 4] [row v53 98 2 ((Wt.drop x e12.job).map Pr.cells), wt 62 p5 s49, var g13 [.int .i64 e12.kind, .int .i64 e12.call, .int .i64 e12.job] 44] Try.mixed (by kernel_rfl) (by decide) rfl ?_
            refine Mx.p rfl (Pu.move rfl) rfl ?_
            refine Mx.p rfl (Pu.move rfl) rfl ?_
            refine Mx.p rfl (Pu.neq rfl rfl) rfl ?_
            refine Mx.p rfl (Pu.move rfl) rfl ?_
            refine Mx.gq (t := 119) rfl rfl rfl (by simp) rfl (Pu.qt (Pu.move rfl)) rfl ?_
            refine Mx.gq (t := 119) rfl rfl rfl (by simp) rfl (Pu.qt (Pu.move rfl)) rfl ?_
            refine Mx.gq (t := 119) rfl rfl rfl (by simp) rfl (Pu.qt (Pu.bneq Try.underlying4 rfl rfl)) rfl ?_
            refine Mx.p rfl (Pu.pickF rfl (by simp) rfl) rfl ?_
            refine Mx.p rfl (Pu.move rfl) rfl ?_
            refine Mx.gq (t := 124) rfl rfl rfl (by simp) rfl (Pu.qt (Pu.move rfl)) rfl ?_
            refine Mx.gq (t := 124) rfl rfl rfl (by simp) rfl (Pu.qt (Pu.fieldAddr (off' := 2) Try.runUnderlying44 rfl Try.sizeOf3 rfl rfl rfl)) rfl ?_
            refine Mx.gq (t := 124) rfl rfl rfl (by simp) rfl (Qt.ld rfl (Cel.var 2 rfl) (o := 0) (off := 2) rfl (Cut.one Try.isAgg3 rfl)) rfl ?_
            refine Mx.gq (t := 124) rfl rfl rfl (by simp) rfl (Pu.qt (Pu.move rfl)) rfl ?_
            refine Mx.gq (t := 124) rfl rfl rfl (by simp) rfl (Pu.qt (Pu.fieldAddr (off' := 2) Try.runUnderlying44 rfl Try.sizeOf3 rfl rfl rfl)) rfl ?_
            refine Mx.gq (t := 124) rfl rfl rfl (by simp) rfl (Qt.ld rfl (Cel.var 2 rfl) (o := 0) (off := 2) rfl (Cut.one Try.isAgg3 rfl)) rfl ?_
            refine Mx.gl (t := 124) rfl rfl rfl (by simp) rfl (Lo.call [.pointer (some ⟨p5, 0, none⟩), .int .i64 e12.job] (by exact Try.call18) rfl (wt_Of p5 s49 (Wt.drop x e12.job) hR50 e12.job (by first | omega | (simp only [Wt.ins_len]; omega) | (refine Nat.le_trans Wt.ofJ_len ?_; first | omega | (simp; done) | (simp only [Wt.ins_len]; omega) | (refine Nat.le_trans Wt.without_len ?_; omega) | (refine Nat.le_trans Wt.drop_len ?_; omega)) | (refine Nat.le_trans Wt.without_len ?_; omega) | (refine Nat.le_trans Wt.drop_len ?_; omega) | (simp; done))) [] [0, 1, 2, 3, 4, 5] (by decide) rfl [row v53 98 2 ((Wt.drop x e12.job).map Pr.cells), row v52 3 1 ((Wt.ofJ x e12.job).map encZ), row v51 3 1 ((Wt.ofJ x e12.job).map encZ), wt 62 p5 s49, var g13 [.int .i64 e12.kind, .int .i64 e12.call, .int .i64 e12.job] 44, row V 98 2 (x.map Pr.cells)] rfl (RoOk.of 3 rfl same_rd [] (by decide) rfl RoOk.nil)) rfl ?_
            rintro v56 _ ⟨_, rfl, rfl⟩
            refine MxK.go [0, 1, 4, 5] [1, 2, 3] [row v56 3 1 ((Wt.ofJ (Wt.drop x e12.job) e12.job).map encZ), row v53 98 2 ((Wt.drop x e12.job).map Pr.cells), wt 62 p5 s49, var g13 [.int .i64 e12.kind, .int .i64 e12.call, .int .i64 e12.job] 44] (by decide) rfl (by decide) rfl ?_
            refine Mx.gl (t := 124) rfl rfl rfl (by simp) rfl (Lo.call [v53, .int .i64 e12.job] (by exact Try.call27) rfl (r34_Of v53 (Wt.drop x e12.job) e12.job (by first | omega | (simp only [Wt.ins_len]; omega) | (refine Nat.le_trans Wt.ofJ_len ?_; first | omega | (simp; done) | (simp only [Wt.ins_len]; omega) | (refine Nat.le_trans Wt.without_len ?_; omega) | (refine Nat.le_trans Wt.drop_len ?_; omega)) | (refine Nat.le_trans Wt.without_len ?_; omega) | (refine Nat.le_trans Wt.drop_len ?_; omega) | (simp; done))) [] [0, 1, 2, 3, 4, 5, 6] (by decide) rfl [row v56 3 1 ((Wt.ofJ (Wt.drop x e12.job) e12.job).map encZ), row v53 98 2 ((Wt.drop x e12.job).map Pr.cells), row v52 3 1 ((Wt.ofJ x e12.job).map encZ), row v51 3 1 ((Wt.ofJ x e12.job).map encZ), wt 62 p5 s49, var g13 [.int .i64 e12.kind, .int .i64 e12.call, .int .i64 e12.job] 44, row V 98 2 (x.map Pr.cells)] rfl (RoOk.of 1 rfl row_rd [] (by decide) rfl RoOk.nil)) rfl ?_
            rintro v57 _ ⟨_, rfl, rfl⟩
            refine MxK.go [0, 1, 2, 5, 6] [1, 2, 3, 4] [row v57 3 1 ((Wt.ofJ (Wt.drop x e12.job) e12.job).map encZ), row v56 3 1 ((Wt.ofJ (Wt.drop x e12.job) e12.job).map encZ), row v53 98 2 ((Wt.drop x e12.job).map Pr.cells), wt 62 p5 s49, var g13 [.int .i64 e12.kind, .int .i64 e12.call, .int .i64 e12.job] 44] (by decide) rfl (by decide) rfl ?_
            refine Mx.gcall (vs := [v56, v57]) (caps := []) (t := 124) rfl rfl rfl (by simp) rfl (by exact Try.call23) rfl rfl (n01_Same v56 v57 (Wt.ofJ (Wt.drop x e12.job) e12.job) (Wt.ofJ (Wt.drop x e12.job) e12.job) (by first | omega | (simp only [Wt.ins_len]; omega) | (refine Nat.le_trans Wt.ofJ_len ?_; first | omega | (simp; done) | (simp only [Wt.ins_len]; omega) | (refine Nat.le_trans Wt.without_len ?_; omega) | (refine Nat.le_trans Wt.drop_len ?_; omega)) | (refine Nat.le_trans Wt.without_len ?_; omega) | (refine Nat.le_trans Wt.drop_len ?_; omega) | (simp; done)) (by first | omega | (simp only [Wt.ins_len]; omega) | (refine Nat.le_trans Wt.ofJ_len ?_; first | omega | (simp; done) | (simp only [Wt.ins_len]; omega) | (refine Nat.le_trans Wt.without_len ?_; omega) | (refine Nat.le_trans Wt.drop_len ?_; omega)) | (refine Nat.le_trans Wt.without_len ?_; omega) | (refine Nat.le_trans Wt.drop_len ?_; omega) | (simp; done))) (fun _ _ h => h) (RoOk.of 1 rfl row_rd [] (by decide) rfl (RoOk.of 0 rfl row_rd [] (by decide) rfl RoOk.nil)) rfl ?_
            refine Mx.gq (t := 124) rfl rfl rfl (by simp) rfl (Pu.qt (Pu.not rfl)) rfl ?_
            refine Mx.p rfl (Pu.pickF rfl (by simp) rfl) rfl ?_
            refine Mx.p rfl (Pu.move rfl) rfl ?_
            refine Mx.gq (t := 136) rfl rfl rfl (not_of_true (by simp)) rfl (Pu.qt (Pu.move rfl)) rfl ?_
            refine Mx.gcall (vs := [.pointer (some ⟨p5, 0, none⟩)]) (caps := []) (t := 136) rfl rfl rfl (not_of_true (by simp)) rfl (by exact Try.call30) rfl rfl (wt_Len p5 s49 (Wt.drop x e12.job) hR50) (fun _ _ h => h) (RoOk.of 3 rfl same_rd [] (by decide) rfl RoOk.nil) rfl ?_
            refine Mx.gq (t := 136) rfl rfl rfl (not_of_true (by simp)) rfl (Pu.qt (Pu.move rfl)) rfl ?_
            refine Mx.gq (t := 136) rfl rfl rfl (not_of_true (by simp)) rfl (Qt.lenM Try.runUnderlying51 rfl (Src.row 2 rfl)) rfl ?_
            refine Mx.gq (t := 136) rfl rfl rfl (not_of_true (by simp)) rfl (Pu.qt (Pu.neq rfl rfl)) rfl ?_
            refine Mx.p rfl (Pu.pickF rfl (not_of_true (by simp)) rfl) rfl ?_
            refine Mx.nil ?_
            refine J.condF rfl (by simp) ?_
            refine J.skip ?_
            refine J.blk ?_
            refine J.region ?_
            refine O.p (Pu.move rfl) rfl ?_
            refine O.p (Pu.add' rfl rfl (by first | omega | (simp only [List.length_append, List.length_cons, List.length_nil, List.length_set]; omega))) rfl ?_
            refine O.p (Pu.assign rfl) rfl ?_
            refine O.nil ?_
            exact J.lp ⟨i + 1, s49, v53, Wt.drop x e12.job⟩ (show (i + 1) ≤ l.length ∧ Wt.Rep (Wt.drop x e12.job) s49 ∧ (Wt.drop x e12.job).length ≤ (i + 1) from ⟨by omega, hR50, (by first | omega | (simp only [Wt.ins_len]; omega) | (refine Nat.le_trans Wt.ofJ_len ?_; first | omega | (simp; done) | (simp only [Wt.ins_len]; omega) | (refine Nat.le_trans Wt.without_len ?_; omega) | (refine Nat.le_trans Wt.drop_len ?_; omega)) | (refine Nat.le_trans Wt.without_len ?_; omega) | (refine Nat.le_trans Wt.drop_len ?_; omega) | (simp; done))⟩) (show l.length - (i + 1) < l.length - i from (by omega)) ⟨rfl, rfl, rfl, (congrArg (fun z => some (Value.int .i64 z)) (by first | rfl | omega : ((i : Int) + 1 : Int) = ((i + 1) : Int))), trivial⟩ [5, 2] (by decide) rfl
          ·
            have p58 := of_decide_eq_false h47
            refine J.seq ?_
            refine J.region ?_
            refine O.p (Pu.eql rfl rfl) rfl ?_
            refine O.p (Pu.assign rfl) rfl ?_
            refine O.nil ?_
            refine J.cond rfl (fun h59 => ?_) (fun h59 => ?_)
            ·
              have p60 := of_decide_eq_true h59
              refine J.seq ?_
              refine J.region ?_
              refine O.p (Pu.move rfl) rfl ?_
              refine O.l (Lo.call [.pointer (some ⟨p5, 0, none⟩)] (by exact Try.call29) rfl (wt_Clear p5 s) [1] [0, 2] (by decide) rfl [var g13 [.int .i64 e12.kind, .int .i64 e12.call, .int .i64 e12.job] 44, row V 98 2 (x.map Pr.cells)] rfl RoOk.nil) rfl ?_
              rintro _ _ ⟨_, ⟨rfl, s61, hR62, rfl⟩, rfl⟩
              refine O.nil ?_
              refine J.region ?_
              refine O.p (Pu.assign rfl) rfl ?_
              refine O.nil ?_
              refine J.blk ?_
              refine J.seq ?_
              refine J.nilRow 98 2 ?_
              show J _ _ _ [row (Value.slice none 0 0) 98 2 (([] : List Pr).map Pr.cells), wt 62 p5 s61, var g13 [.int .i64 e12.kind, .int .i64 e12.call, .int .i64 e12.job] 44, row V 98 2 (x.map Pr.cells)]
              refine J.region ?_
              refine O.p (Pu.move rfl) rfl ?_
              refine O.p (Pu.fieldAddr (off' := 1) Try.runUnderlying44 rfl Try.sizeOf3 rfl rfl rfl) rfl ?_
              refine O.q (Qt.ld rfl (Cel.var 2 rfl) (o := 0) (off := 1) rfl (Cut.one Try.isAgg3 rfl)) rfl ?_
              refine O.l (Lo.call [.pointer (some ⟨p5, 0, none⟩), .int .i64 e12.call] (by exact Try.call19) rfl (wt_Job p5 s61 ([] : List Pr) hR62 e12.call) [] [0, 1, 2, 3] (by decide) rfl [row (Value.slice none 0 0) 98 2 (([] : List Pr).map Pr.cells), wt 62 p5 s61, var g13 [.int .i64 e12.kind, .int .i64 e12.call, .int .i64 e12.job] 44, row V 98 2 (x.map Pr.cells)] rfl (RoOk.of 1 rfl same_rd [] (by decide) rfl RoOk.nil)) rfl ?_
              rintro _ _ ⟨_, ⟨rfl, rfl⟩, rfl⟩
              refine O.p (Pu.move rfl) rfl ?_
              refine O.p (Pu.extract rfl rfl) rfl ?_
              refine O.p (Pu.extract rfl rfl) rfl ?_
              refine O.p (Pu.assign rfl) rfl ?_
              refine O.p (Pu.assign rfl) rfl ?_
              refine O.nil ?_
              refine J.seq ?_
              refine J.region ?_
              refine O.p (Pu.move rfl) rfl ?_
              refine O.p (Pu.fieldAddr (off' := 1) Try.runUnderlying44 rfl Try.sizeOf3 rfl rfl rfl) rfl ?_
              refine O.q (Qt.ld rfl (Cel.var 2 rfl) (o := 0) (off := 1) rfl (Cut.one Try.isAgg3 rfl)) rfl ?_
              refine O.l (Lo.call [Value.slice none 0 0, .int .i64 e12.call] (by exact Try.call25) rfl (r34_Job (Value.slice none 0 0) ([] : List Pr) e12.call (by first | omega | (simp only [Wt.ins_len]; omega) | (refine Nat.le_trans Wt.ofJ_len ?_; first | omega | (simp; done) | (simp only [Wt.ins_len]; omega) | (refine Nat.le_trans Wt.without_len ?_; omega) | (refine Nat.le_trans Wt.drop_len ?_; omega)) | (refine Nat.le_trans Wt.without_len ?_; omega) | (refine Nat.le_trans Wt.drop_len ?_; omega) | (simp; done))) [] [0, 1, 2, 3] (by decide) rfl [row (Value.slice none 0 0) 98 2 (([] : List Pr).map Pr.cells), wt 62 p5 s61, var g13 [.int .i64 e12.kind, .int .i64 e12.call, .int .i64 e12.job] 44, row V 98 2 (x.map Pr.cells)] rfl (RoOk.of 0 rfl row_rd [] (by decide) rfl RoOk.nil)) rfl ?_
              rintro _ _ ⟨_, ⟨rfl, rfl⟩, rfl⟩
              refine O.p (Pu.move rfl) rfl ?_
              refine O.p (Pu.extract rfl rfl) rfl ?_
              refine O.p (Pu.extract rfl rfl) rfl ?_
              refine O.p (Pu.assign rfl) rfl ?_
              refine O.p (Pu.assign rfl) rfl ?_
              refine O.nil ?_
              refine J.seq ?_
              refine J.drawMix [(0, false), (1, false), (2, false), (3, false), (4, false), (5, false), (6, false), (7, false), (8, false), (9, false), (10, false), (11, false), (13, false), (14, false), (15, false), (12, true), (16, true), (17, false), (18, false), (19, false), (20, false), (21, false), (22, false), (23, false), (24, false), (25, false), (26, false)] [0, 1, 2] [row (Value.slice none 0 0) 98 2 (([] : List Pr).map Pr.cells), wt 62 p5 s61, var g13 [.int .i64 e12.kind, .int .i64 e12.call, .int .i64 e12.job] 44] Try.mixed (by kernel_rfl) (by decide) rfl ?_
              refine Mx.p rfl (Pu.move rfl) rfl ?_
              refine Mx.p rfl (Pu.move rfl) rfl ?_
              refine Mx.p rfl (Pu.neq rfl rfl) rfl ?_
              refine Mx.p rfl (Pu.move rfl) rfl ?_
              refine Mx.gq (t := 119) rfl rfl rfl (by simp) rfl (Pu.qt (Pu.move rfl)) rfl ?_
              refine Mx.gq (t := 119) rfl rfl rfl (by simp) rfl (Pu.qt (Pu.move rfl)) rfl ?_
              refine Mx.gq (t := 119) rfl rfl rfl (by simp) rfl (Pu.qt (Pu.bneq Try.underlying4 rfl rfl)) rfl ?_
              refine Mx.p rfl (Pu.pickF rfl (by simp) rfl) rfl ?_
              refine Mx.p rfl (Pu.move rfl) rfl ?_
              refine Mx.gq (t := 124) rfl rfl rfl (by simp) rfl (Pu.qt (Pu.move rfl)) rfl ?_
              refine Mx.gq (t := 124) rfl rfl rfl (by simp) rfl (Pu.qt (Pu.fieldAddr (off' := 2) Try.runUnderlying44 rfl Try.sizeOf3 rfl rfl rfl)) rfl ?_
              refine Mx.gq (t := 124) rfl rfl rfl (by simp) rfl (Qt.ld rfl (Cel.var 2 rfl) (o := 0) (off := 2) rfl (Cut.one Try.isAgg3 rfl)) rfl ?_
              refine Mx.gq (t := 124) rfl rfl rfl (by simp) rfl (Pu.qt (Pu.move rfl)) rfl ?_
              refine Mx.gq (t := 124) rfl rfl rfl (by simp) rfl (Pu.qt (Pu.fieldAddr (off' := 2) Try.runUnderlying44 rfl Try.sizeOf3 rfl rfl rfl)) rfl ?_
              refine Mx.gq (t := 124) rfl rfl rfl (by simp) rfl (Qt.ld rfl (Cel.var 2 rfl) (o := 0) (off := 2) rfl (Cut.one Try.isAgg3 rfl)) rfl ?_
              refine Mx.gl (t := 124) rfl rfl rfl (by simp) rfl (Lo.call [.pointer (some ⟨p5, 0, none⟩), .int .i64 e12.job] (by exact Try.call18) rfl (wt_Of p5 s61 ([] : List Pr) hR62 e12.job (by first | omega | (simp only [Wt.ins_len]; omega) | (refine Nat.le_trans Wt.ofJ_len ?_; first | omega | (simp; done) | (simp only [Wt.ins_len]; omega) | (refine Nat.le_trans Wt.without_len ?_; omega) | (refine Nat.le_trans Wt.drop_len ?_; omega)) | (refine Nat.le_trans Wt.without_len ?_; omega) | (refine Nat.le_trans Wt.drop_len ?_; omega) | (simp; done))) [] [0, 1, 2, 3] (by decide) rfl [row (Value.slice none 0 0) 98 2 (([] : List Pr).map Pr.cells), wt 62 p5 s61, var g13 [.int .i64 e12.kind, .int .i64 e12.call, .int .i64 e12.job] 44, row V 98 2 (x.map Pr.cells)] rfl (RoOk.of 1 rfl same_rd [] (by decide) rfl RoOk.nil)) rfl ?_
              rintro v66 _ ⟨_, rfl, rfl⟩
              refine MxK.go [0, 1, 2, 3] [1, 2, 3] [row v66 3 1 ((Wt.ofJ ([] : List Pr) e12.job).map encZ), row (Value.slice none 0 0) 98 2 (([] : List Pr).map Pr.cells), wt 62 p5 s61, var g13 [.int .i64 e12.kind, .int .i64 e12.call, .int .i64 e12.job] 44] (by decide) rfl (by decide) rfl ?_
              refine Mx.gl (t := 124) rfl rfl rfl (by simp) rfl (Lo.call [Value.slice none 0 0, .int .i64 e12.job] (by exact Try.call27) rfl (r34_Of (Value.slice none 0 0) ([] : List Pr) e12.job (by first | omega | (simp only [Wt.ins_len]; omega) | (refine Nat.le_trans Wt.ofJ_len ?_; first | omega | (simp; done) | (simp only [Wt.ins_len]; omega) | (refine Nat.le_trans Wt.without_len ?_; omega) | (refine Nat.le_trans Wt.drop_len ?_; omega)) | (refine Nat.le_trans Wt.without_len ?_; omega) | (refine Nat.le_trans Wt.drop_len ?_; omega) | (simp; done))) [] [0, 1, 2, 3, 4] (by decide) rfl [row v66 3 1 ((Wt.ofJ ([] : List Pr) e12.job).map encZ), row (Value.slice none 0 0) 98 2 (([] : List Pr).map Pr.cells), wt 62 p5 s61, var g13 [.int .i64 e12.kind, .int .i64 e12.call, .int .i64 e12.job] 44, row V 98 2 (x.map Pr.cells)] rfl (RoOk.of 1 rfl row_rd [] (by decide) rfl RoOk.nil)) rfl ?_
              rintro v67 _ ⟨_, rfl, rfl⟩
              refine MxK.go [0, 1, 2, 3, 4] [1, 2, 3, 4] [row v67 3 1 ((Wt.ofJ ([] : List Pr) e12.job).map encZ), row v66 3 1 ((Wt.ofJ ([] : List Pr) e12.job).map encZ), row (Value.slice none 0 0) 98 2 (([] : List Pr).map Pr.cells), wt 62 p5 s61, var g13 [.int .i64 e12.kind, .int .i64 e12.call, .int .i64 e12.job] 44] (by decide) rfl (by decide) rfl ?_
              refine Mx.gcall (vs := [v66, v67]) (caps := []) (t := 124) rfl rfl rfl (by simp) rfl (by exact Try.call23) rfl rfl (n01_Same v66 v67 (Wt.ofJ ([] : List Pr) e12.job) (Wt.ofJ ([] : List Pr) e12.job) (by first | omega | (simp only [Wt.ins_len]; omega) | (refine Nat.le_trans Wt.ofJ_len ?_; first | omega | (simp; done) | (simp only [Wt.ins_len]; omega) | (refine Nat.le_trans Wt.without_len ?_; omega) | (refine Nat.le_trans Wt.drop_len ?_; omega)) | (refine Nat.le_trans Wt.without_len ?_; omega) | (refine Nat.le_trans Wt.drop_len ?_; omega) | (simp; done)) (by first | omega | (simp only [Wt.ins_len]; omega) | (refine Nat.le_trans Wt.ofJ_len ?_; first | omega | (simp; done) | (simp only [Wt.ins_len]; omega) | (refine Nat.le_trans Wt.without_len ?_; omega) | (refine Nat.le_trans Wt.drop_len ?_; omega)) | (refine Nat.le_trans Wt.without_len ?_; omega) | (refine Nat.le_trans Wt.drop_len ?_; omega) | (simp; done))) (fun _ _ h => h) (RoOk.of 1 rfl row_rd [] (by decide) rfl (RoOk.of 0 rfl row_rd [] (by decide) rfl RoOk.nil)) rfl ?_
              refine Mx.gq (t := 124) rfl rfl rfl (by simp) rfl (Pu.qt (Pu.not rfl)) rfl ?_
              refine Mx.p rfl (Pu.pickF rfl (by simp) rfl) rfl ?_
              refine Mx.p rfl (Pu.move rfl) rfl ?_
              refine Mx.gq (t := 136) rfl rfl rfl (not_of_true (by simp)) rfl (Pu.qt (Pu.move rfl)) rfl ?_
              refine Mx.gcall (vs := [.pointer (some ⟨p5, 0, none⟩)]) (caps := []) (t := 136) rfl rfl rfl (not_of_true (by simp)) rfl (by exact Try.call30) rfl rfl (wt_Len p5 s61 ([] : List Pr) hR62) (fun _ _ h => h) (RoOk.of 3 rfl same_rd [] (by decide) rfl RoOk.nil) rfl ?_
              refine Mx.gq (t := 136) rfl rfl rfl (not_of_true (by simp)) rfl (Pu.qt (Pu.move rfl)) rfl ?_
              refine Mx.gq (t := 136) rfl rfl rfl (not_of_true (by simp)) rfl (Qt.lenM Try.runUnderlying51 rfl (Src.row 2 rfl)) rfl ?_
              refine Mx.gq (t := 136) rfl rfl rfl (not_of_true (by simp)) rfl (Pu.qt (Pu.neq rfl rfl)) rfl ?_
              refine Mx.p rfl (Pu.pickF rfl (not_of_true (by simp)) rfl) rfl ?_
              refine Mx.nil ?_
              refine J.condF rfl rfl ?_
              refine J.skip ?_
              refine J.blk ?_
              refine J.region ?_
              refine O.p (Pu.move rfl) rfl ?_
              refine O.p (Pu.add' rfl rfl (by first | omega | (simp only [List.length_append, List.length_cons, List.length_nil, List.length_set]; omega))) rfl ?_
              refine O.p (Pu.assign rfl) rfl ?_
              refine O.nil ?_
              exact J.lp ⟨i + 1, s61, Value.slice none 0 0, ([] : List Pr)⟩ (show (i + 1) ≤ l.length ∧ Wt.Rep ([] : List Pr) s61 ∧ ([] : List Pr).length ≤ (i + 1) from ⟨by omega, hR62, (by first | omega | (simp only [Wt.ins_len]; omega) | (refine Nat.le_trans Wt.ofJ_len ?_; first | omega | (simp; done) | (simp only [Wt.ins_len]; omega) | (refine Nat.le_trans Wt.without_len ?_; omega) | (refine Nat.le_trans Wt.drop_len ?_; omega)) | (refine Nat.le_trans Wt.without_len ?_; omega) | (refine Nat.le_trans Wt.drop_len ?_; omega) | (simp; done))⟩) (show l.length - (i + 1) < l.length - i from (by omega)) ⟨rfl, rfl, rfl, (congrArg (fun z => some (Value.int .i64 z)) (by first | rfl | omega : ((i : Int) + 1 : Int) = ((i + 1) : Int))), trivial⟩ [3, 2] (by decide) rfl
            ·
              have p68 := of_decide_eq_false h59
              refine J.skip ?_
              refine J.blk ?_
              refine J.seq ?_
              refine J.region ?_
              refine O.p (Pu.move rfl) rfl ?_
              refine O.p (Pu.fieldAddr (off' := 1) Try.runUnderlying44 rfl Try.sizeOf3 rfl rfl rfl) rfl ?_
              refine O.q (Qt.ld rfl (Cel.var 0 rfl) (o := 0) (off := 1) rfl (Cut.one Try.isAgg3 rfl)) rfl ?_
              refine O.l (Lo.call [.pointer (some ⟨p5, 0, none⟩), .int .i64 e12.call] (by exact Try.call19) rfl (wt_Job p5 s x hR e12.call) [] [0, 1, 2] (by decide) rfl [var g13 [.int .i64 e12.kind, .int .i64 e12.call, .int .i64 e12.job] 44, wt 62 p5 s, row V 98 2 (x.map Pr.cells)] rfl (RoOk.of 1 rfl same_rd [] (by decide) rfl RoOk.nil)) rfl ?_
              rintro _ _ ⟨_, ⟨rfl, rfl⟩, rfl⟩
              refine O.p (Pu.move rfl) rfl ?_
              refine O.p (Pu.extract rfl rfl) rfl ?_
              refine O.p (Pu.extract rfl rfl) rfl ?_
              refine O.p (Pu.assign rfl) rfl ?_
              refine O.p (Pu.assign rfl) rfl ?_
              refine O.nil ?_
              refine J.seq ?_
              refine J.region ?_
              refine O.p (Pu.move rfl) rfl ?_
              refine O.p (Pu.fieldAddr (off' := 1) Try.runUnderlying44 rfl Try.sizeOf3 rfl rfl rfl) rfl ?_
              refine O.q (Qt.ld rfl (Cel.var 0 rfl) (o := 0) (off := 1) rfl (Cut.one Try.isAgg3 rfl)) rfl ?_
              refine O.l (Lo.call [V, .int .i64 e12.call] (by exact Try.call25) rfl (r34_Job V x e12.call (by first | omega | (simp only [Wt.ins_len]; omega) | (refine Nat.le_trans Wt.ofJ_len ?_; first | omega | (simp; done) | (simp only [Wt.ins_len]; omega) | (refine Nat.le_trans Wt.without_len ?_; omega) | (refine Nat.le_trans Wt.drop_len ?_; omega)) | (refine Nat.le_trans Wt.without_len ?_; omega) | (refine Nat.le_trans Wt.drop_len ?_; omega) | (simp; done))) [] [0, 1, 2] (by decide) rfl [var g13 [.int .i64 e12.kind, .int .i64 e12.call, .int .i64 e12.job] 44, wt 62 p5 s, row V 98 2 (x.map Pr.cells)] rfl (RoOk.of 2 rfl row_rd [] (by decide) rfl RoOk.nil)) rfl ?_
              rintro _ _ ⟨_, ⟨rfl, rfl⟩, rfl⟩
              refine O.p (Pu.move rfl) rfl ?_
              refine O.p (Pu.extract rfl rfl) rfl ?_
              refine O.p (Pu.extract rfl rfl) rfl ?_
              refine O.p (Pu.assign rfl) rfl ?_
              refine O.p (Pu.assign rfl) rfl ?_
              refine O.nil ?_
              refine J.seq ?_
              refine J.drawMix [(0, false), (1, false), (2, false), (3, false), (4, false), (5, false), (6, false), (7, false), (8, false), (9, false), (10, false), (11, false), (13, false), (14, false), (15, false), (12, true), (16, true), (17, false), (18, false), (19, false), (20, false), (21, false), (22, false), (23, false), (24, false), (25, false), (26, false)] [0, 1, 2] [var g13 [.int .i64 e12.kind, .int .i64 e12.call, .int .i64 e12.job] 44, wt 62 p5 s, row V 98 2 (x.map Pr.cells)] Try.mixed (by kernel_rfl) (by decide) rfl ?_
              refine Mx.p rfl (Pu.move rfl) rfl ?_
              refine Mx.p rfl (Pu.move rfl) rfl ?_
              refine Mx.p rfl (Pu.neq rfl rfl) rfl ?_
              refine Mx.p rfl (Pu.move rfl) rfl ?_
              refine Mx.gq (t := 119) rfl rfl rfl (by simp) rfl (Pu.qt (Pu.move rfl)) rfl ?_
              refine Mx.gq (t := 119) rfl rfl rfl (by simp) rfl (Pu.qt (Pu.move rfl)) rfl ?_
              refine Mx.gq (t := 119) rfl rfl rfl (by simp) rfl (Pu.qt (Pu.bneq Try.underlying4 rfl rfl)) rfl ?_
              refine Mx.p rfl (Pu.pickF rfl (by simp) rfl) rfl ?_
              refine Mx.p rfl (Pu.move rfl) rfl ?_
              refine Mx.gq (t := 124) rfl rfl rfl (by simp) rfl (Pu.qt (Pu.move rfl)) rfl ?_
              refine Mx.gq (t := 124) rfl rfl rfl (by simp) rfl (Pu.qt (Pu.fieldAddr (off' := 2) Try.runUnderlying44 rfl Try.sizeOf3 rfl rfl rfl)) rfl ?_
              refine Mx.gq (t := 124) rfl rfl rfl (by simp) rfl (Qt.ld rfl (Cel.var 0 rfl) (o := 0) (off := 2) rfl (Cut.one Try.isAgg3 rfl)) rfl ?_
              refine Mx.gq (t := 124) rfl rfl rfl (by simp) rfl (Pu.qt (Pu.move rfl)) rfl ?_
              refine Mx.gq (t := 124) rfl rfl rfl (by simp) rfl (Pu.qt (Pu.fieldAddr (off' := 2) Try.runUnderlying44 rfl Try.sizeOf3 rfl rfl rfl)) rfl ?_
              refine Mx.gq (t := 124) rfl rfl rfl (by simp) rfl (Qt.ld rfl (Cel.var 0 rfl) (o := 0) (off := 2) rfl (Cut.one Try.isAgg3 rfl)) rfl ?_
              refine Mx.gl (t := 124) rfl rfl rfl (by simp) rfl (Lo.call [.pointer (some ⟨p5, 0, none⟩), .int .i64 e12.job] (by exact Try.call18) rfl (wt_Of p5 s x hR e12.job (by first | omega | (simp only [Wt.ins_len]; omega) | (refine Nat.le_trans Wt.ofJ_len ?_; first | omega | (simp; done) | (simp only [Wt.ins_len]; omega) | (refine Nat.le_trans Wt.without_len ?_; omega) | (refine Nat.le_trans Wt.drop_len ?_; omega)) | (refine Nat.le_trans Wt.without_len ?_; omega) | (refine Nat.le_trans Wt.drop_len ?_; omega) | (simp; done))) [] [0, 1, 2] (by decide) rfl [var g13 [.int .i64 e12.kind, .int .i64 e12.call, .int .i64 e12.job] 44, wt 62 p5 s, row V 98 2 (x.map Pr.cells)] rfl (RoOk.of 1 rfl same_rd [] (by decide) rfl RoOk.nil)) rfl ?_
              rintro v71 _ ⟨_, rfl, rfl⟩
              refine MxK.go [0, 1, 2, 3] [1, 2, 3] [row v71 3 1 ((Wt.ofJ x e12.job).map encZ), var g13 [.int .i64 e12.kind, .int .i64 e12.call, .int .i64 e12.job] 44, wt 62 p5 s, row V 98 2 (x.map Pr.cells)] (by decide) rfl (by decide) rfl ?_
              refine Mx.gl (t := 124) rfl rfl rfl (by simp) rfl (Lo.call [V, .int .i64 e12.job] (by exact Try.call27) rfl (r34_Of V x e12.job (by first | omega | (simp only [Wt.ins_len]; omega) | (refine Nat.le_trans Wt.ofJ_len ?_; first | omega | (simp; done) | (simp only [Wt.ins_len]; omega) | (refine Nat.le_trans Wt.without_len ?_; omega) | (refine Nat.le_trans Wt.drop_len ?_; omega)) | (refine Nat.le_trans Wt.without_len ?_; omega) | (refine Nat.le_trans Wt.drop_len ?_; omega) | (simp; done))) [] [0, 1, 2, 3] (by decide) rfl [row v71 3 1 ((Wt.ofJ x e12.job).map encZ), var g13 [.int .i64 e12.kind, .int .i64 e12.call, .int .i64 e12.job] 44, wt 62 p5 s, row V 98 2 (x.map Pr.cells)] rfl (RoOk.of 3 rfl row_rd [] (by decide) rfl RoOk.nil)) rfl ?_
              rintro v72 _ ⟨_, rfl, rfl⟩
              refine MxK.go [0, 1, 2, 3, 4] [1, 2, 3, 4] [row v72 3 1 ((Wt.ofJ x e12.job).map encZ), row v71 3 1 ((Wt.ofJ x e12.job).map encZ), var g13 [.int .i64 e12.kind, .int .i64 e12.call, .int .i64 e12.job] 44, wt 62 p5 s, row V 98 2 (x.map Pr.cells)] (by decide) rfl (by decide) rfl ?_
              refine Mx.gcall (vs := [v71, v72]) (caps := []) (t := 124) rfl rfl rfl (by simp) rfl (by exact Try.call23) rfl rfl (n01_Same v71 v72 (Wt.ofJ x e12.job) (Wt.ofJ x e12.job) (by first | omega | (simp only [Wt.ins_len]; omega) | (refine Nat.le_trans Wt.ofJ_len ?_; first | omega | (simp; done) | (simp only [Wt.ins_len]; omega) | (refine Nat.le_trans Wt.without_len ?_; omega) | (refine Nat.le_trans Wt.drop_len ?_; omega)) | (refine Nat.le_trans Wt.without_len ?_; omega) | (refine Nat.le_trans Wt.drop_len ?_; omega) | (simp; done)) (by first | omega | (simp only [Wt.ins_len]; omega) | (refine Nat.le_trans Wt.ofJ_len ?_; first | omega | (simp; done) | (simp only [Wt.ins_len]; omega) | (refine Nat.le_trans Wt.without_len ?_; omega) | (refine Nat.le_trans Wt.drop_len ?_; omega)) | (refine Nat.le_trans Wt.without_len ?_; omega) | (refine Nat.le_trans Wt.drop_len ?_; omega) | (simp; done))) (fun _ _ h => h) (RoOk.of 1 rfl row_rd [] (by decide) rfl (RoOk.of 0 rfl row_rd [] (by decide) rfl RoOk.nil)) rfl ?_
              refine Mx.gq (t := 124) rfl rfl rfl (by simp) rfl (Pu.qt (Pu.not rfl)) rfl ?_
              refine Mx.p rfl (Pu.pickF rfl (by simp) rfl) rfl ?_
              refine Mx.p rfl (Pu.move rfl) rfl ?_
              refine Mx.gq (t := 136) rfl rfl rfl (not_of_true (by simp)) rfl (Pu.qt (Pu.move rfl)) rfl ?_
              refine Mx.gcall (vs := [.pointer (some ⟨p5, 0, none⟩)]) (caps := []) (t := 136) rfl rfl rfl (not_of_true (by simp)) rfl (by exact Try.call30) rfl rfl (wt_Len p5 s x hR) (fun _ _ h => h) (RoOk.of 3 rfl same_rd [] (by decide) rfl RoOk.nil) rfl ?_
              refine Mx.gq (t := 136) rfl rfl rfl (not_of_true (by simp)) rfl (Pu.qt (Pu.move rfl)) rfl ?_
              refine Mx.gq (t := 136) rfl rfl rfl (not_of_true (by simp)) rfl (Qt.lenM Try.runUnderlying51 rfl (Src.row 4 rfl)) rfl ?_
              refine Mx.gq (t := 136) rfl rfl rfl (not_of_true (by simp)) rfl (Pu.qt (Pu.neq rfl rfl)) rfl ?_
              refine Mx.p rfl (Pu.pickF rfl (not_of_true (by simp)) rfl) rfl ?_
              refine Mx.nil ?_
              refine J.condF rfl (by simp) ?_
              refine J.skip ?_
              refine J.blk ?_
              refine J.region ?_
              refine O.p (Pu.move rfl) rfl ?_
              refine O.p (Pu.add' rfl rfl (by first | omega | (simp only [List.length_append, List.length_cons, List.length_nil, List.length_set]; omega))) rfl ?_
              refine O.p (Pu.assign rfl) rfl ?_
              refine O.nil ?_
              exact J.lp ⟨i + 1, s, V, x⟩ (show (i + 1) ≤ l.length ∧ Wt.Rep x s ∧ x.length ≤ (i + 1) from ⟨by omega, hR, (by first | omega | (simp only [Wt.ins_len]; omega) | (refine Nat.le_trans Wt.ofJ_len ?_; first | omega | (simp; done) | (simp only [Wt.ins_len]; omega) | (refine Nat.le_trans Wt.without_len ?_; omega) | (refine Nat.le_trans Wt.drop_len ?_; omega)) | (refine Nat.le_trans Wt.without_len ?_; omega) | (refine Nat.le_trans Wt.drop_len ?_; omega) | (simp; done))⟩) (show l.length - (i + 1) < l.length - i from (by omega)) ⟨rfl, rfl, rfl, (congrArg (fun z => some (Value.int .i64 z)) (by first | rfl | omega : ((i : Int) + 1 : Int) = ((i + 1) : Int))), trivial⟩ [3, 4] (by decide) rfl
    ·
      have p73 := of_decide_eq_false h10
      refine J.exit _ rfl ?_
      refine J.seq ?_
      refine J.region ?_
      refine O.l (Lo.call [] (by exact Try.call16) rfl law34_awake [] [0, 1] (by decide) rfl [wt 62 p5 s, row V 98 2 (x.map Pr.cells)] rfl RoOk.nil) rfl ?_
      rintro _ _ ⟨_, ⟨rfl, rfl⟩, rfl⟩
      refine O.p (Pu.assign rfl) rfl ?_
      refine O.nil ?_
      exact J.ret (Fin.ret (rs := [.tmp 2]) rfl [_] ⟨rfl, trivial⟩ [] (by decide) [] rfl ⟨rfl, rfl⟩)

end Go.Proofs.Ytnkhmbbnabejhaa
