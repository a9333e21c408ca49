/-
  Walks, printed by a program of mine (lk.py): each function meets its contract.
-/
import Derived.KernelRfl
import Derived.Test.YtnkhmbbnabejhaaJX3
namespace Go.Proofs.Ytnkhmbbnabejhaa
open Go Go.LK
set_option linter.unusedSimpArgs false

set_option maxRecDepth 100000 in
set_option maxHeartbeats 2000000 in
theorem law32_jobOnce (x0 x1 x2 x3 x4 x5 x6 : Int) (nv : Value) (needs : List Int) (lv : Value) (l : List An) : Tri Try.prog 3 #[.agg #[.int .i64 x0, .int .i64 x1, .int .i64 x2, .int .i64 x3, .int .i64 x4, .int .i64 x5, .int .i64 x6], nv, lv] [rd nv 1 (needs.map encZ), rd lv 2 (l.map An.cells)] [] (fun v L' => v = .bool true ∧ L' = []) := by
  refine Tri.enter (args := [.agg #[.int .i64 x0, .int .i64 x1, .int .i64 x2, .int .i64 x3, .int .i64 x4, .int .i64 x5, .int .i64 x6], nv, lv]) (body := _) 170 Try.func3 rfl Try.ntmps3 rfl ?_
  intro w0
  refine J.seq ?_
  refine J.region ?_
  refine O.l (Lo.box [.int .i64 x0, .int .i64 x1, .int .i64 x2, .int .i64 x3, .int .i64 x4, .int .i64 x5, .int .i64 x6] rfl rfl) rfl ?_
  rintro _ _ ⟨g1, rfl, rfl⟩
  refine O.p (Pu.assign rfl) rfl ?_
  refine O.nil ?_
  refine J.seq ?_
  refine J.seq ?_
  refine J.region ?_
  refine O.p (Pu.move rfl) rfl ?_
  refine O.q (Qt.lenM Try.runUnderlying24 rfl (Src.ro 0 rfl)) rfl ?_
  refine O.p (Pu.gtr rfl rfl) rfl ?_
  refine O.p (Pu.move rfl) rfl ?_
  refine by_bool (decide (30 < (needs.length : Int))) (fun h2 => ?_) (fun h2 => ?_)
  ·
    have p3 := of_decide_eq_true h2
    refine O.gskip (t := 21) rfl rfl (no_bool (by rw [h2]; decide)) rfl rfl ?_
    refine O.gskip (t := 21) rfl rfl (no_bool (by rw [h2]; decide)) rfl rfl ?_
    refine O.gskip (t := 21) rfl rfl (no_bool (by rw [h2]; decide)) rfl rfl ?_
    refine O.p (Pu.pickT rfl h2 rfl) rfl ?_
    refine O.nil ?_
    refine J.condT rfl rfl ?_
    refine J.seq ?_
    refine J.region ?_
    refine O.l (Lo.call [] (by exact Try.call11) rfl law32_awake [] [0] (by decide) rfl [var g1 [.int .i64 x0, .int .i64 x1, .int .i64 x2, .int .i64 x3, .int .i64 x4, .int .i64 x5, .int .i64 x6] 23] rfl RoOk.nil) rfl ?_
    rintro _ _ ⟨_, ⟨rfl, rfl⟩, rfl⟩
    refine O.p (Pu.assign rfl) rfl ?_
    refine O.nil ?_
    exact J.ret (Fin.ret (rs := [.tmp 6]) rfl [_] ⟨rfl, trivial⟩ [] (by decide) [] rfl ⟨rfl, rfl⟩)
  ·
    have p5 := of_decide_eq_false h2
    refine O.gq (t := 21) rfl rfl h2 rfl (Pu.qt (Pu.move rfl)) rfl ?_
    refine O.gq (t := 21) rfl rfl h2 rfl (Qt.lenM Try.runUnderlying25 rfl (Src.ro 1 rfl)) rfl ?_
    refine O.gq (t := 21) rfl rfl h2 rfl (Pu.qt (Pu.gtr rfl rfl)) rfl ?_
    refine O.p (Pu.pickF rfl h2 rfl) rfl ?_
    refine O.nil ?_
    refine J.cond rfl (fun h6 => ?_) (fun h6 => ?_)
    ·
      have p7 := of_decide_eq_true h6
      refine J.seq ?_
      refine J.region ?_
      refine O.l (Lo.call [] (by exact Try.call11) rfl law32_awake [] [0] (by decide) rfl [var g1 [.int .i64 x0, .int .i64 x1, .int .i64 x2, .int .i64 x3, .int .i64 x4, .int .i64 x5, .int .i64 x6] 23] rfl RoOk.nil) rfl ?_
      rintro _ _ ⟨_, ⟨rfl, rfl⟩, rfl⟩
      refine O.p (Pu.assign rfl) rfl ?_
      refine O.nil ?_
      exact J.ret (Fin.ret (rs := [.tmp 6]) rfl [_] ⟨rfl, trivial⟩ [] (by decide) [] rfl ⟨rfl, rfl⟩)
    ·
      have p9 := of_decide_eq_false h6
      refine J.skip ?_
      refine J.seq ?_
      refine by_bool (decide (needs = [])) (fun h10 => ?_) (fun h10 => ?_)
      ·
        have p11 := of_decide_eq_true h10
        refine J.region ?_
        refine O.q (Qt.ld rfl (Cel.var 0 rfl) (o := 0) (off := 0) rfl (Cut.agg [.int .i64 x0, .int .i64 x1, .int .i64 x2, .int .i64 x3, .int .i64 x4, .int .i64 x5, .int .i64 x6] Try.isAgg23 Try.sizeOf23 rfl rfl)) rfl ?_
        refine O.l (Lo.call [.agg #[.int .i64 x0, .int .i64 x1, .int .i64 x2, .int .i64 x3, .int .i64 x4, .int .i64 x5, .int .i64 x6]] (by exact Try.call13) rfl (jb_New x0 x1 x2 x3 x4 x5 x6) [] [0] (by decide) rfl [var g1 [.int .i64 x0, .int .i64 x1, .int .i64 x2, .int .i64 x3, .int .i64 x4, .int .i64 x5, .int .i64 x6] 23] rfl RoOk.nil) rfl ?_
        rintro _ _ ⟨_, ⟨rfl, rfl⟩, rfl⟩
        refine O.p (Pu.move rfl) rfl ?_
        refine O.l (Lo.call [.agg #[.int .i64 x0, .int .i64 x1, .int .i64 x2, .int .i64 x3, .int .i64 x4, .int .i64 x5, .int .i64 x6, .int .i64 1, Value.slice none 0 0], nv] (by exact Try.call12) rfl (jb_DoneE2 x0 x1 x2 x3 x4 x5 x6 (Value.slice none 0 0) nv rfl needs (of_decide_eq_true h10)) [] [0] (by decide) rfl [var g1 [.int .i64 x0, .int .i64 x1, .int .i64 x2, .int .i64 x3, .int .i64 x4, .int .i64 x5, .int .i64 x6] 23] rfl (RoOk.ro 0 rfl [] rfl RoOk.nil)) rfl ?_
        rintro _ _ ⟨_, ⟨rfl, rfl⟩, rfl⟩
        refine O.p (Pu.move rfl) rfl ?_
        refine O.p (Pu.extract rfl rfl) rfl ?_
        refine O.p (Pu.extract rfl rfl) rfl ?_
        refine O.p (Pu.extract rfl rfl) rfl ?_
        refine O.l (Lo.alloc [.int .i64 0, .int .i64 0, .int .i64 0, .int .i64 0, .int .i64 0, .int .i64 0, .int .i64 0, .int .i64 0, Value.slice none 0 0] (by exact Try.zeroValue28) rfl) rfl ?_
        rintro _ _ ⟨g14, rfl, rfl⟩
        refine O.l0 (Lo.store 0 (vs := [.int .i64 0, .int .i64 0, .int .i64 0, .int .i64 0, .int .i64 0, .int .i64 0, .int .i64 0, .int .i64 0, Value.slice none 0 0]) [.int .i64 0, .int .i64 0, .int .i64 0, .int .i64 0, .int .i64 0, .int .i64 0, .int .i64 0, .int .i64 0, Value.slice none 0 0] rfl rfl rfl (by exact Try.sizeOf28) rfl rfl rfl rfl rfl) ?_
        rintro _ _ rfl
        refine O.p (Pu.assign rfl) rfl ?_
        refine O.p (Pu.assign rfl) rfl ?_
        refine O.nil ?_
        refine J.seq ?_
        refine J.seq ?_
        refine J.region ?_
        refine O.p (Pu.move rfl) rfl ?_
        refine O.p (Pu.neq rfl rfl) rfl ?_
        refine O.p (Pu.move rfl) rfl ?_
        refine O.gq (t := 37) rfl rfl rfl rfl (Pu.qt (Pu.move rfl)) rfl ?_
        refine O.gq (t := 37) rfl rfl rfl rfl (Qt.lenM Try.runUnderlying24 rfl (Src.ro 0 rfl)) rfl ?_
        refine O.gq (t := 37) rfl rfl rfl rfl (Pu.qt (Pu.eql rfl rfl)) rfl ?_
        refine O.p (Pu.pickF rfl rfl rfl) rfl ?_
        refine O.nil ?_
        refine J.condT rfl (decide_eq_true (by rw [of_decide_eq_true h10]; rfl)) ?_
        refine J.seq ?_
        refine J.region ?_
        refine O.p (Pu.move rfl) rfl ?_
        refine O.p (Pu.eql rfl rfl) rfl ?_
        refine O.p (Pu.move rfl) rfl ?_
        refine O.gq (t := 44) rfl rfl rfl rfl (Pu.qt (Pu.move rfl)) rfl ?_
        refine O.gq (t := 44) rfl rfl rfl rfl (Pu.qt (Pu.eql rfl rfl)) rfl ?_
        refine O.p (Pu.pickT rfl rfl rfl) rfl ?_
        refine O.p (Pu.move rfl) rfl ?_
        refine O.gl (t := 48) rfl rfl rfl rfl (Lo.call [] (by exact Try.call11) rfl law32_awake [] [0, 1] (by decide) rfl [var g14 [.int .i64 0, .int .i64 0, .int .i64 0, .int .i64 0, .int .i64 0, .int .i64 0, .int .i64 0, .int .i64 0, Value.slice none 0 0] 28, var g1 [.int .i64 x0, .int .i64 x1, .int .i64 x2, .int .i64 x3, .int .i64 x4, .int .i64 x5, .int .i64 x6] 23] rfl RoOk.nil) rfl ?_
        rintro _ _ ⟨_, ⟨rfl, rfl⟩, rfl⟩
        refine O.p (Pu.pickT rfl rfl rfl) rfl ?_
        refine O.p (Pu.assign rfl) rfl ?_
        refine O.nil ?_
        exact J.ret (Fin.ret (rs := [.tmp 6]) rfl [_] ⟨rfl, trivial⟩ [] (by decide) [] rfl ⟨rfl, rfl⟩)
      ·
        have p16 := of_decide_eq_false h10
        refine J.region ?_
        refine O.q (Qt.ld rfl (Cel.var 0 rfl) (o := 0) (off := 0) rfl (Cut.agg [.int .i64 x0, .int .i64 x1, .int .i64 x2, .int .i64 x3, .int .i64 x4, .int .i64 x5, .int .i64 x6] Try.isAgg23 Try.sizeOf23 rfl rfl)) rfl ?_
        refine O.l (Lo.call [.agg #[.int .i64 x0, .int .i64 x1, .int .i64 x2, .int .i64 x3, .int .i64 x4, .int .i64 x5, .int .i64 x6]] (by exact Try.call13) rfl (jb_New x0 x1 x2 x3 x4 x5 x6) [] [0] (by decide) rfl [var g1 [.int .i64 x0, .int .i64 x1, .int .i64 x2, .int .i64 x3, .int .i64 x4, .int .i64 x5, .int .i64 x6] 23] rfl RoOk.nil) rfl ?_
        rintro _ _ ⟨_, ⟨rfl, rfl⟩, rfl⟩
        refine O.p (Pu.move rfl) rfl ?_
        refine O.l (Lo.call [.agg #[.int .i64 x0, .int .i64 x1, .int .i64 x2, .int .i64 x3, .int .i64 x4, .int .i64 x5, .int .i64 x6, .int .i64 1, Value.slice none 0 0], nv] (by exact Try.call12) rfl (jb_Done x0 x1 x2 x3 x4 x5 x6 (Value.slice none 0 0) nv needs rfl (by first | omega | (rw [hR]; have h_ := Jb.rem_len (needs := needs) (l := l) (k := k); omega)) (of_decide_eq_false h10)) [] [0] (by decide) rfl [var g1 [.int .i64 x0, .int .i64 x1, .int .i64 x2, .int .i64 x3, .int .i64 x4, .int .i64 x5, .int .i64 x6] 23] rfl (RoOk.ro 0 rfl [] rfl RoOk.nil)) rfl ?_
        rintro _ _ ⟨_, ⟨V18, rfl, rfl⟩, rfl⟩
        refine O.p (Pu.move rfl) rfl ?_
        refine O.p (Pu.extract rfl rfl) rfl ?_
        refine O.p (Pu.extract rfl rfl) rfl ?_
        refine O.p (Pu.extract rfl rfl) rfl ?_
        refine O.l (Lo.alloc [.int .i64 0, .int .i64 0, .int .i64 0, .int .i64 0, .int .i64 0, .int .i64 0, .int .i64 0, .int .i64 0, Value.slice none 0 0] (by exact Try.zeroValue28) rfl) rfl ?_
        rintro _ _ ⟨g20, rfl, rfl⟩
        refine O.one (Src.row 1 rfl) (fun hV21 => ?_)
        refine O.l0 (Lo.store 0 (vs := [.int .i64 x0, .int .i64 x1, .int .i64 x2, .int .i64 x3, .int .i64 x4, .int .i64 x5, .int .i64 x6, .int .i64 2, V18]) [.int .i64 x0, .int .i64 x1, .int .i64 x2, .int .i64 x3, .int .i64 x4, .int .i64 x5, .int .i64 x6, .int .i64 2, V18] rfl rfl rfl (by exact Try.sizeOf28) rfl rfl (by simp only [List.all_cons, List.all_nil, Bool.and_true, hV21] <;> rfl) rfl rfl) ?_
        rintro _ _ rfl
        refine O.p (Pu.assign rfl) rfl ?_
        refine O.p (Pu.assign rfl) rfl ?_
        refine O.nil ?_
        refine J.seq ?_
        refine J.seq ?_
        refine J.region ?_
        refine O.p (Pu.move rfl) rfl ?_
        refine O.p (Pu.neq rfl rfl) rfl ?_
        refine O.p (Pu.move rfl) rfl ?_
        refine O.gq (t := 37) rfl rfl rfl rfl (Pu.qt (Pu.move rfl)) rfl ?_
        refine O.gq (t := 37) rfl rfl rfl rfl (Qt.lenM Try.runUnderlying24 rfl (Src.ro 0 rfl)) rfl ?_
        refine O.gq (t := 37) rfl rfl rfl rfl (Pu.qt (Pu.eql rfl rfl)) rfl ?_
        refine O.p (Pu.pickF rfl rfl rfl) rfl ?_
        refine O.nil ?_
        refine J.condF rfl (decide_eq_false (by have h_ := List.length_pos_iff.2 (of_decide_eq_false h10); omega)) ?_
        refine J.skip ?_
        refine J.seq ?_
        refine J.region ?_
        refine O.p (Pu.move rfl) rfl ?_
        refine O.q (Qt.lenM Try.runUnderlying24 rfl (Src.ro 0 rfl)) rfl ?_
        refine O.l (Lo.makeSliceN (z := (false : Bool)) (f := encBo) (m := needs.length) (s := 1) (bytes := 1) (by exact Try.runUnderlying33) (fun w => run_typeInfo w (by exact (info4).1)) (by exact (info4).2.2.2) (by exact Try.sizeOf4) (by exact Try.zeroValue4) rfl rfl (by omega) (by omega) (by decide) rfl rfl (by decide) rfl) rfl ?_
        rintro V22 _ rfl
        refine O.p (Pu.assign rfl) rfl ?_
        refine O.nil ?_
        refine J.seq ?_
        refine J.seq ?_
        refine J.region ?_
        refine O.p (Pu.assign rfl) rfl ?_
        refine O.nil ?_
        refine J.block ?_
        refine J.loop (X := Nat × Value × List Bool × List Int) (fun ξ => ξ.1 ≤ l.length ∧ ξ.2.2.1 = Jb.heardK needs l ξ.1 0 ∧ ξ.2.2.2 = Jb.rem needs l ξ.1 ∧ ξ.2.2.2 ≠ []) (fun ξ => [(1, nv), (2, lv), (3, .pointer (some ⟨g1, 0, none⟩)), (7, .pointer (some ⟨g20, 0, none⟩)), (10, V22), (11, .int .i64 (ξ.1 : Int))]) (fun ξ => [var g1 [.int .i64 x0, .int .i64 x1, .int .i64 x2, .int .i64 x3, .int .i64 x4, .int .i64 x5, .int .i64 x6] 23, var g20 [.int .i64 x0, .int .i64 x1, .int .i64 x2, .int .i64 x3, .int .i64 x4, .int .i64 x5, .int .i64 x6, .int .i64 2, ξ.2.1] 28, row V22 4 1 (ξ.2.2.1.map encBo), row ξ.2.1 3 1 (ξ.2.2.2.map encZ)]) (fun ξ => l.length - ξ.1) ⟨0, V18, List.replicate needs.length (false : Bool), Jb.rising needs⟩ (show 0 ≤ l.length ∧ (List.replicate needs.length (false : Bool)) = Jb.heardK needs l 0 0 ∧ (Jb.rising needs) = Jb.rem needs l 0 ∧ (Jb.rising needs) ≠ [] from ⟨by omega, (by rw [Jb.heard_zero]; exact (List.map_eq_replicate_iff.2 (fun _ _ => rfl)).symm), Jb.rem_zero.symm, (fun h_ => absurd (Jb.rising_nil.1 h_) (by assumption))⟩) ⟨rfl, rfl, rfl, rfl, rfl, (congrArg (fun z => some (Value.int .i64 z)) (by first | rfl | omega : (0 : Int) = (0 : Int))), trivial⟩ [3, 1, 0, 2] (by decide) rfl ?_
        rintro ⟨k, V, hs, R⟩ hq23
        obtain ⟨hk, hh, hR, hRn⟩ : k ≤ l.length ∧ hs = Jb.heardK needs l k 0 ∧ R = Jb.rem needs l k ∧ R ≠ [] := hq23
        show J _ _ [(1, nv), (2, lv), (3, .pointer (some ⟨g1, 0, none⟩)), (7, .pointer (some ⟨g20, 0, none⟩)), (10, V22), (11, .int .i64 (k : Int))] [var g1 [.int .i64 x0, .int .i64 x1, .int .i64 x2, .int .i64 x3, .int .i64 x4, .int .i64 x5, .int .i64 x6] 23, var g20 [.int .i64 x0, .int .i64 x1, .int .i64 x2, .int .i64 x3, .int .i64 x4, .int .i64 x5, .int .i64 x6, .int .i64 2, V] 28, row V22 4 1 (hs.map encBo), row V 3 1 (R.map encZ)]
        refine J.seq ?_
        refine J.seq ?_
        refine J.region ?_
        refine O.p (Pu.move rfl) rfl ?_
        refine O.p (Pu.move rfl) rfl ?_
        refine O.q (Qt.lenM Try.runUnderlying25 rfl (Src.ro 1 rfl)) rfl ?_
        refine O.p (Pu.lss rfl rfl) rfl ?_
        refine O.nil ?_
        refine J.cond rfl (fun h24 => ?_) (fun h24 => ?_)
        ·
          have p25 := of_decide_eq_true h24
          refine J.skip ?_
          refine J.seq ?_
          refine J.block ?_
          refine J.seq ?_
          obtain ⟨⟨c_, d_⟩, ha⟩ : ∃ x_, l[k]? = some x_ := ⟨_, List.getElem?_eq_getElem (by omega)⟩
          refine J.region ?_
          refine O.p (Pu.assign rfl) rfl ?_
          refine O.p (Pu.assign rfl) rfl ?_
          refine O.nil ?_
          refine J.seq ?_
          refine J.seq ?_
          refine J.region ?_
          refine O.p (Pu.assign rfl) rfl ?_
          refine O.nil ?_
          refine J.block ?_
          refine J.loop (X := Nat × List Bool × Bool × Int) (fun ξ => ξ.1 ≤ needs.length ∧ ξ.2.1 = Jb.heardK needs l k ξ.1 ∧ ξ.2.2.1 = Jb.mineK needs l k ξ.1 c_ ∧ ξ.2.2.2 = (Jb.leftK needs l k ξ.1 : Int)) (fun ξ => [(1, nv), (2, lv), (3, .pointer (some ⟨g1, 0, none⟩)), (7, .pointer (some ⟨g20, 0, none⟩)), (10, V22), (11, .int .i64 (k : Int)), (12, .bool ξ.2.2.1), (13, .int .i64 ξ.2.2.2), (14, .int .i64 (ξ.1 : Int))]) (fun ξ => [var g1 [.int .i64 x0, .int .i64 x1, .int .i64 x2, .int .i64 x3, .int .i64 x4, .int .i64 x5, .int .i64 x6] 23, var g20 [.int .i64 x0, .int .i64 x1, .int .i64 x2, .int .i64 x3, .int .i64 x4, .int .i64 x5, .int .i64 x6, .int .i64 2, V] 28, row V22 4 1 (ξ.2.1.map encBo), row V 3 1 (R.map encZ)]) (fun ξ => needs.length - ξ.1) ⟨0, hs, false, 0⟩ (show 0 ≤ needs.length ∧ hs = Jb.heardK needs l k 0 ∧ false = Jb.mineK needs l k 0 c_ ∧ 0 = (Jb.leftK needs l k 0 : Int) from ⟨by omega, hh, (by simp [Jb.mineK]), (by simp [Jb.leftK])⟩) ⟨rfl, rfl, rfl, rfl, rfl, rfl, rfl, rfl, (congrArg (fun z => some (Value.int .i64 z)) (by first | rfl | omega : (0 : Int) = (0 : Int))), trivial⟩ [0, 1, 2, 3] (by decide) rfl ?_
          rintro ⟨q, hs2, m, lf⟩ hq26
          obtain ⟨hq, hh, hm, hl2⟩ : q ≤ needs.length ∧ hs2 = Jb.heardK needs l k q ∧ m = Jb.mineK needs l k q c_ ∧ lf = (Jb.leftK needs l k q : Int) := hq26
          show J _ _ [(1, nv), (2, lv), (3, .pointer (some ⟨g1, 0, none⟩)), (7, .pointer (some ⟨g20, 0, none⟩)), (10, V22), (11, .int .i64 (k : Int)), (12, .bool m), (13, .int .i64 lf), (14, .int .i64 (q : Int))] [var g1 [.int .i64 x0, .int .i64 x1, .int .i64 x2, .int .i64 x3, .int .i64 x4, .int .i64 x5, .int .i64 x6] 23, var g20 [.int .i64 x0, .int .i64 x1, .int .i64 x2, .int .i64 x3, .int .i64 x4, .int .i64 x5, .int .i64 x6, .int .i64 2, V] 28, row V22 4 1 (hs2.map encBo), row V 3 1 (R.map encZ)]
          refine J.seq ?_
          refine J.seq ?_
          refine J.region ?_
          refine O.p (Pu.move rfl) rfl ?_
          refine O.p (Pu.move rfl) rfl ?_
          refine O.q (Qt.lenM Try.runUnderlying24 rfl (Src.ro 0 rfl)) rfl ?_
          refine O.p (Pu.lss rfl rfl) rfl ?_
          refine O.nil ?_
          refine J.cond rfl (fun h27 => ?_) (fun h27 => ?_)
          ·
            have p28 := of_decide_eq_true h27
            refine J.skip ?_
            refine J.seq ?_
            refine J.block ?_
            refine J.seq ?_
            obtain ⟨e29, he29⟩ : ∃ x_, needs[q]? = some x_ := ⟨_, List.getElem?_eq_getElem (by first | omega | (have h_ := Jb.heard_len (needs := needs) (l := l) (k := k) (q := q) (by omega); rw [← hh] at h_; first | omega | (simp only [List.length_set]; omega)))⟩
            obtain ⟨e30, he30⟩ : ∃ x_, hs2[q]? = some x_ := ⟨_, List.getElem?_eq_getElem (by first | omega | (have h_ := Jb.heard_len (needs := needs) (l := l) (k := k) (q := q) (by omega); rw [← hh] at h_; first | omega | (simp only [List.length_set]; omega)))⟩
            refine J.drawStill Try.mixed (by kernel_rfl) ?_
            refine S.p (Pu.move rfl) rfl ?_
            refine S.p (Pu.move rfl) rfl ?_
            refine by_bool m (fun h31 => ?_) (fun h31 => ?_)
            ·
              refine S.gskip (t := 67) rfl rfl (no_bool (by rw [h31]; decide)) rfl rfl ?_
              refine S.gskip (t := 67) rfl rfl (no_bool (by rw [h31]; decide)) rfl rfl ?_
              refine S.gskip (t := 67) rfl rfl (no_bool (by rw [h31]; decide)) rfl rfl ?_
              refine S.gskip (t := 67) rfl rfl (no_bool (by rw [h31]; decide)) rfl rfl ?_
              refine S.gskip (t := 67) rfl rfl (no_bool (by rw [h31]; decide)) rfl rfl ?_
              refine S.gskip (t := 67) rfl rfl (no_bool (by rw [h31]; decide)) rfl rfl ?_
              refine S.gskip (t := 67) rfl rfl (no_bool (by rw [h31]; decide)) rfl rfl ?_
              refine S.gskip (t := 67) rfl rfl (no_bool (by rw [h31]; decide)) rfl rfl ?_
              refine S.gskip (t := 67) rfl rfl (no_bool (by rw [h31]; decide)) rfl rfl ?_
              refine S.gskip (t := 67) rfl rfl (no_bool (by rw [h31]; decide)) rfl rfl ?_
              refine S.gskip (t := 67) rfl rfl (no_bool (by rw [h31]; decide)) rfl rfl ?_
              refine S.gskip (t := 78) rfl rfl (no_undef _) rfl rfl ?_
              refine S.gskip (t := 78) rfl rfl (no_undef _) rfl rfl ?_
              refine S.gskip (t := 78) rfl rfl (no_undef _) rfl rfl ?_
              refine S.gskip (t := 78) rfl rfl (no_undef _) rfl rfl ?_
              refine S.gskip (t := 78) rfl rfl (no_undef _) rfl rfl ?_
              refine S.gskip (t := 67) rfl rfl (no_bool (by rw [h31]; decide)) rfl rfl ?_
              refine S.p (Pu.pickT rfl h31 rfl) rfl ?_
              refine S.p (Pu.assign rfl) rfl ?_
              refine S.endJ ?_
              refine J.seq ?_
              refine J.drawTail 19 Try.mixed (by kernel_rfl) ?_
              refine S.p (Pu.move rfl) rfl ?_
              refine S.p (Pu.move rfl) rfl ?_
              refine S.p (Pu.move rfl) rfl ?_
              refine S.p (Pu.move rfl) rfl ?_
              refine S.q (Qt.idxM Try.runUnderlying33 Try.sizeOf4 rfl (Src.row 2 rfl) rfl (by first | omega | (have h_ := Jb.heard_len (needs := needs) (l := l) (k := k) (q := q) (by omega); rw [← hh] at h_; first | omega | (simp only [List.length_set]; omega))) (by first | omega | (have h_ := Jb.heard_len (needs := needs) (l := l) (k := k) (q := q) (by omega); rw [← hh] at h_; first | omega | (simp only [List.length_set]; omega)))) rfl ?_
              refine S.q (Qt.ld rfl (Cel.eltM (Src.row 2 rfl) he30) (o := (voff V22 + q * 1)) (off := 0) (by omega) (Cut.one Try.isAgg4 rfl)) rfl ?_
              refine S.p (Pu.move rfl) rfl ?_
              refine by_bool e30 (fun h32 => ?_) (fun h32 => ?_)
              ·
                refine S.gskip (t := 92) rfl rfl (no_bool (by rw [h32]; decide)) rfl rfl ?_
                refine S.gskip (t := 92) rfl rfl (no_bool (by rw [h32]; decide)) rfl rfl ?_
                refine S.gskip (t := 92) rfl rfl (no_bool (by rw [h32]; decide)) rfl rfl ?_
                refine S.gskip (t := 92) rfl rfl (no_bool (by rw [h32]; decide)) rfl rfl ?_
                refine S.gskip (t := 92) rfl rfl (no_bool (by rw [h32]; decide)) rfl rfl ?_
                refine S.gskip (t := 92) rfl rfl (no_bool (by rw [h32]; decide)) rfl rfl ?_
                refine S.gskip (t := 92) rfl rfl (no_bool (by rw [h32]; decide)) rfl rfl ?_
                refine S.gskip (t := 92) rfl rfl (no_bool (by rw [h32]; decide)) rfl rfl ?_
                refine S.gskip (t := 92) rfl rfl (no_bool (by rw [h32]; decide)) rfl rfl ?_
                refine S.gskip (t := 92) rfl rfl (no_bool (by rw [h32]; decide)) rfl rfl ?_
                refine S.p (Pu.pickT rfl h32 rfl) rfl ?_
                refine S.q (Qt.idxM Try.runUnderlying33 Try.sizeOf4 rfl (Src.row 2 rfl) rfl (by first | omega | (have h_ := Jb.heard_len (needs := needs) (l := l) (k := k) (q := q) (by omega); rw [← hh] at h_; first | omega | (simp only [List.length_set]; omega))) (by first | omega | (have h_ := Jb.heard_len (needs := needs) (l := l) (k := k) (q := q) (by omega); rw [← hh] at h_; first | omega | (simp only [List.length_set]; omega)))) rfl ?_
                refine S.endO ?_
                refine O.l0 (Lo.storeM 2 (j := q) (off := 0) (vs := [.bool true]) (e := [.bool e30]) true rfl rfl rfl rfl (by omega) he30 rfl (by exact Try.sizeOf4) rfl rfl rfl rfl rfl) ?_
                rintro _ _ rfl
                have hs33 : (hs2.set q true)[q]? = some true := List.getElem?_set_self (List.getElem?_eq_some_iff.1 he30).1
                refine O.nil ?_
                refine J.seq ?_
                refine J.region ?_
                refine O.p (Pu.move rfl) rfl ?_
                refine O.p (Pu.move rfl) rfl ?_
                refine O.q (Qt.idxM Try.runUnderlying33 Try.sizeOf4 rfl (Src.row 2 rfl) rfl (by first | omega | (have h_ := Jb.heard_len (needs := needs) (l := l) (k := k) (q := q) (by omega); rw [← hh] at h_; first | omega | (simp only [List.length_set]; omega))) (by first | omega | (have h_ := Jb.heard_len (needs := needs) (l := l) (k := k) (q := q) (by omega); rw [← hh] at h_; first | omega | (simp only [List.length_set]; omega)))) rfl ?_
                refine O.q (Qt.ld rfl (Cel.eltM (Src.row 2 rfl) hs33) (o := (voff V22 + q * 1)) (off := 0) (by omega) (Cut.one Try.isAgg4 rfl)) rfl ?_
                refine O.p (Pu.not rfl) rfl ?_
                refine O.nil ?_
                refine J.condF rfl rfl ?_
                refine J.skip ?_
                refine J.blk ?_
                refine J.region ?_
                refine O.p (Pu.move rfl) rfl ?_
                refine O.p (Pu.add' rfl rfl (by first | omega | (have h_ := Jb.left_le (needs := needs) (l := l) (k := k) (q := q); omega))) rfl ?_
                refine O.p (Pu.assign rfl) rfl ?_
                refine O.nil ?_
                exact J.lp ⟨q + 1, hs2.set q true, true, lf⟩ (show (q + 1) ≤ needs.length ∧ (hs2.set q true) = Jb.heardK needs l k (q + 1) ∧ true = Jb.mineK needs l k (q + 1) c_ ∧ lf = (Jb.leftK needs l k (q + 1) : Int) from (have h_ := Jb.inner_next hh hm hl2 ha he29 he30 hs33 (m' := true) (lf' := lf) (by first | rfl | simp_all) (by first | rfl | simp_all) (by first | rfl | simp_all); ⟨by omega, h_.1, h_.2.1, h_.2.2⟩)) (show needs.length - (q + 1) < needs.length - q from (by first | omega | (have h_ := Jb.heard_len (needs := needs) (l := l) (k := k) (q := q) (by omega); rw [← hh] at h_; first | omega | (simp only [List.length_set]; omega)))) ⟨rfl, rfl, rfl, rfl, rfl, rfl, rfl, rfl, (congrArg (fun z => some (Value.int .i64 z)) (by first | rfl | omega : ((q : Int) + 1 : Int) = ((q + 1) : Int))), trivial⟩ [0, 1, 2, 3] (by decide) rfl
              ·
                refine S.gq (t := 92) rfl rfl h32 rfl (Pu.qt (Pu.move rfl)) rfl ?_
                refine S.gq (t := 92) rfl rfl h32 rfl (Pu.qt (Pu.move rfl)) rfl ?_
                refine S.gq (t := 92) rfl rfl h32 rfl (Qt.idxM Try.runUnderlying24 Try.sizeOf3 rfl (Src.ro 0 rfl) rfl (by first | omega | (have h_ := Jb.heard_len (needs := needs) (l := l) (k := k) (q := q) (by omega); rw [← hh] at h_; first | omega | (simp only [List.length_set]; omega))) (by first | omega | (have h_ := Jb.heard_len (needs := needs) (l := l) (k := k) (q := q) (by omega); rw [← hh] at h_; first | omega | (simp only [List.length_set]; omega)))) rfl ?_
                refine S.gq (t := 92) rfl rfl h32 rfl (Qt.ld rfl (Cel.eltM (Src.ro 0 rfl) he29) (o := (voff nv + q * 1)) (off := 0) (by omega) (Cut.one Try.isAgg3 rfl)) rfl ?_
                refine S.gq (t := 92) rfl rfl h32 rfl (Pu.qt (Pu.move rfl)) rfl ?_
                refine S.gq (t := 92) rfl rfl h32 rfl (Pu.qt (Pu.move rfl)) rfl ?_
                refine S.gq (t := 92) rfl rfl h32 rfl (Qt.idxM Try.runUnderlying25 Try.sizeOf35 rfl (Src.ro 1 rfl) rfl (by first | omega | (have h_ := Jb.heard_len (needs := needs) (l := l) (k := k) (q := q) (by omega); rw [← hh] at h_; first | omega | (simp only [List.length_set]; omega))) (by first | omega | (have h_ := Jb.heard_len (needs := needs) (l := l) (k := k) (q := q) (by omega); rw [← hh] at h_; first | omega | (simp only [List.length_set]; omega)))) rfl ?_
                refine S.gq (t := 92) rfl rfl h32 rfl (Pu.qt (Pu.fieldAddr (off' := voff lv + ((k : Int)).toNat * 2 + 0) Try.runUnderlying35 rfl Try.sizeOf3 rfl rfl rfl)) rfl ?_
                refine S.gq (t := 92) rfl rfl h32 rfl (Qt.ld rfl (Cel.eltM (Src.ro 1 rfl) ha) (o := (voff lv + k * 2)) (off := 0) (by omega) (Cut.one Try.isAgg3 rfl)) rfl ?_
                refine S.gq (t := 92) rfl rfl h32 rfl (Pu.qt (Pu.eql rfl rfl)) rfl ?_
                refine S.p (Pu.pickF rfl h32 rfl) rfl ?_
                refine S.q (Qt.idxM Try.runUnderlying33 Try.sizeOf4 rfl (Src.row 2 rfl) rfl (by first | omega | (have h_ := Jb.heard_len (needs := needs) (l := l) (k := k) (q := q) (by omega); rw [← hh] at h_; first | omega | (simp only [List.length_set]; omega))) (by first | omega | (have h_ := Jb.heard_len (needs := needs) (l := l) (k := k) (q := q) (by omega); rw [← hh] at h_; first | omega | (simp only [List.length_set]; omega)))) rfl ?_
                refine S.endO ?_
                refine O.l0 (Lo.storeM 2 (j := q) (off := 0) (vs := [.bool (decide (e29 = c_))]) (e := [.bool e30]) (decide (e29 = c_)) rfl rfl rfl rfl (by omega) he30 rfl (by exact Try.sizeOf4) rfl rfl rfl rfl rfl) ?_
                rintro _ _ rfl
                have hs34 : (hs2.set q (decide (e29 = c_)))[q]? = some (decide (e29 = c_)) := List.getElem?_set_self (List.getElem?_eq_some_iff.1 he30).1
                refine O.nil ?_
                refine J.seq ?_
                refine J.region ?_
                refine O.p (Pu.move rfl) rfl ?_
                refine O.p (Pu.move rfl) rfl ?_
                refine O.q (Qt.idxM Try.runUnderlying33 Try.sizeOf4 rfl (Src.row 2 rfl) rfl (by first | omega | (have h_ := Jb.heard_len (needs := needs) (l := l) (k := k) (q := q) (by omega); rw [← hh] at h_; first | omega | (simp only [List.length_set]; omega))) (by first | omega | (have h_ := Jb.heard_len (needs := needs) (l := l) (k := k) (q := q) (by omega); rw [← hh] at h_; first | omega | (simp only [List.length_set]; omega)))) rfl ?_
                refine O.q (Qt.ld rfl (Cel.eltM (Src.row 2 rfl) hs34) (o := (voff V22 + q * 1)) (off := 0) (by omega) (Cut.one Try.isAgg4 rfl)) rfl ?_
                refine O.p (Pu.not rfl) rfl ?_
                refine O.nil ?_
                refine J.cond rfl (fun h35 => ?_) (fun h35 => ?_)
                ·
                  have h36 : (decide (e29 = c_)) = false := not_flip h35
                  have p37 := of_decide_eq_false h36
                  refine J.region ?_
                  refine O.p (Pu.move rfl) rfl ?_
                  refine O.p (Pu.add' rfl rfl (by first | omega | (have h_ := Jb.left_le (needs := needs) (l := l) (k := k) (q := q); omega))) rfl ?_
                  refine O.p (Pu.assign rfl) rfl ?_
                  refine O.nil ?_
                  refine J.blk ?_
                  refine J.region ?_
                  refine O.p (Pu.move rfl) rfl ?_
                  refine O.p (Pu.add' rfl rfl (by first | omega | (have h_ := Jb.left_le (needs := needs) (l := l) (k := k) (q := q); omega))) rfl ?_
                  refine O.p (Pu.assign rfl) rfl ?_
                  refine O.nil ?_
                  exact J.lp ⟨q + 1, hs2.set q (decide (e29 = c_)), true, lf + 1⟩ (show (q + 1) ≤ needs.length ∧ (hs2.set q (decide (e29 = c_))) = Jb.heardK needs l k (q + 1) ∧ true = Jb.mineK needs l k (q + 1) c_ ∧ (lf + 1) = (Jb.leftK needs l k (q + 1) : Int) from (have h_ := Jb.inner_next hh hm hl2 ha he29 he30 hs34 (m' := true) (lf' := lf + 1) (by first | rfl | simp_all) (by first | rfl | simp_all) (by first | rfl | simp_all); ⟨by omega, h_.1, h_.2.1, h_.2.2⟩)) (show needs.length - (q + 1) < needs.length - q from (by first | omega | (have h_ := Jb.heard_len (needs := needs) (l := l) (k := k) (q := q) (by omega); rw [← hh] at h_; first | omega | (simp only [List.length_set]; omega)))) ⟨rfl, rfl, rfl, rfl, rfl, rfl, rfl, rfl, (congrArg (fun z => some (Value.int .i64 z)) (by first | rfl | omega : ((q : Int) + 1 : Int) = ((q + 1) : Int))), trivial⟩ [0, 1, 2, 3] (by decide) rfl
                ·
                  have h38 : (decide (e29 = c_)) = true := not_flip h35
                  have p39 := of_decide_eq_true h38
                  refine J.skip ?_
                  refine J.blk ?_
                  refine J.region ?_
                  refine O.p (Pu.move rfl) rfl ?_
                  refine O.p (Pu.add' rfl rfl (by first | omega | (have h_ := Jb.left_le (needs := needs) (l := l) (k := k) (q := q); omega))) rfl ?_
                  refine O.p (Pu.assign rfl) rfl ?_
                  refine O.nil ?_
                  exact J.lp ⟨q + 1, hs2.set q (decide (e29 = c_)), true, lf⟩ (show (q + 1) ≤ needs.length ∧ (hs2.set q (decide (e29 = c_))) = Jb.heardK needs l k (q + 1) ∧ true = Jb.mineK needs l k (q + 1) c_ ∧ lf = (Jb.leftK needs l k (q + 1) : Int) from (have h_ := Jb.inner_next hh hm hl2 ha he29 he30 hs34 (m' := true) (lf' := lf) (by first | rfl | simp_all) (by first | rfl | simp_all) (by first | rfl | simp_all); ⟨by omega, h_.1, h_.2.1, h_.2.2⟩)) (show needs.length - (q + 1) < needs.length - q from (by first | omega | (have h_ := Jb.heard_len (needs := needs) (l := l) (k := k) (q := q) (by omega); rw [← hh] at h_; first | omega | (simp only [List.length_set]; omega)))) ⟨rfl, rfl, rfl, rfl, rfl, rfl, rfl, rfl, (congrArg (fun z => some (Value.int .i64 z)) (by first | rfl | omega : ((q : Int) + 1 : Int) = ((q + 1) : Int))), trivial⟩ [0, 1, 2, 3] (by decide) rfl
            ·
              refine S.gq (t := 67) rfl rfl h31 rfl (Pu.qt (Pu.move rfl)) rfl ?_
              refine S.gq (t := 67) rfl rfl h31 rfl (Pu.qt (Pu.move rfl)) rfl ?_
              refine S.gq (t := 67) rfl rfl h31 rfl (Qt.idxM Try.runUnderlying24 Try.sizeOf3 rfl (Src.ro 0 rfl) rfl (by first | omega | (have h_ := Jb.heard_len (needs := needs) (l := l) (k := k) (q := q) (by omega); rw [← hh] at h_; first | omega | (simp only [List.length_set]; omega))) (by first | omega | (have h_ := Jb.heard_len (needs := needs) (l := l) (k := k) (q := q) (by omega); rw [← hh] at h_; first | omega | (simp only [List.length_set]; omega)))) rfl ?_
              refine S.gq (t := 67) rfl rfl h31 rfl (Qt.ld rfl (Cel.eltM (Src.ro 0 rfl) he29) (o := (voff nv + q * 1)) (off := 0) (by omega) (Cut.one Try.isAgg3 rfl)) rfl ?_
              refine S.gq (t := 67) rfl rfl h31 rfl (Pu.qt (Pu.move rfl)) rfl ?_
              refine S.gq (t := 67) rfl rfl h31 rfl (Pu.qt (Pu.move rfl)) rfl ?_
              refine S.gq (t := 67) rfl rfl h31 rfl (Qt.idxM Try.runUnderlying25 Try.sizeOf35 rfl (Src.ro 1 rfl) rfl (by first | omega | (have h_ := Jb.heard_len (needs := needs) (l := l) (k := k) (q := q) (by omega); rw [← hh] at h_; first | omega | (simp only [List.length_set]; omega))) (by first | omega | (have h_ := Jb.heard_len (needs := needs) (l := l) (k := k) (q := q) (by omega); rw [← hh] at h_; first | omega | (simp only [List.length_set]; omega)))) rfl ?_
              refine S.gq (t := 67) rfl rfl h31 rfl (Pu.qt (Pu.fieldAddr (off' := voff lv + ((k : Int)).toNat * 2 + 0) Try.runUnderlying35 rfl Try.sizeOf3 rfl rfl rfl)) rfl ?_
              refine S.gq (t := 67) rfl rfl h31 rfl (Qt.ld rfl (Cel.eltM (Src.ro 1 rfl) ha) (o := (voff lv + k * 2)) (off := 0) (by omega) (Cut.one Try.isAgg3 rfl)) rfl ?_
              refine S.gq (t := 67) rfl rfl h31 rfl (Pu.qt (Pu.eql rfl rfl)) rfl ?_
              refine S.gq (t := 67) rfl rfl h31 rfl (Pu.qt (Pu.move rfl)) rfl ?_
              refine by_bool (decide (e29 = c_)) (fun h40 => ?_) (fun h40 => ?_)
              ·
                have p41 := of_decide_eq_true h40
                refine S.gq (t := 78) rfl rfl h40 rfl (Pu.qt (Pu.move rfl)) rfl ?_
                refine S.gq (t := 78) rfl rfl h40 rfl (Pu.qt (Pu.move rfl)) rfl ?_
                refine S.gq (t := 78) rfl rfl h40 rfl (Qt.idxM Try.runUnderlying33 Try.sizeOf4 rfl (Src.row 2 rfl) rfl (by first | omega | (have h_ := Jb.heard_len (needs := needs) (l := l) (k := k) (q := q) (by omega); rw [← hh] at h_; first | omega | (simp only [List.length_set]; omega))) (by first | omega | (have h_ := Jb.heard_len (needs := needs) (l := l) (k := k) (q := q) (by omega); rw [← hh] at h_; first | omega | (simp only [List.length_set]; omega)))) rfl ?_
                refine S.gq (t := 78) rfl rfl h40 rfl (Qt.ld rfl (Cel.eltM (Src.row 2 rfl) he30) (o := (voff V22 + q * 1)) (off := 0) (by omega) (Cut.one Try.isAgg4 rfl)) rfl ?_
                refine S.gq (t := 78) rfl rfl h40 rfl (Pu.qt (Pu.not rfl)) rfl ?_
                refine S.gq (t := 67) rfl rfl h31 rfl (Pu.qt (Pu.pickT rfl h40 rfl)) rfl ?_
                refine S.p (Pu.pickF rfl h31 rfl) rfl ?_
                refine S.p (Pu.assign rfl) rfl ?_
                refine S.endJ ?_
                refine J.seq ?_
                refine J.drawTail 19 Try.mixed (by kernel_rfl) ?_
                refine S.p (Pu.move rfl) rfl ?_
                refine S.p (Pu.move rfl) rfl ?_
                refine S.p (Pu.move rfl) rfl ?_
                refine S.p (Pu.move rfl) rfl ?_
                refine S.q (Qt.idxM Try.runUnderlying33 Try.sizeOf4 rfl (Src.row 2 rfl) rfl (by first | omega | (have h_ := Jb.heard_len (needs := needs) (l := l) (k := k) (q := q) (by omega); rw [← hh] at h_; first | omega | (simp only [List.length_set]; omega))) (by first | omega | (have h_ := Jb.heard_len (needs := needs) (l := l) (k := k) (q := q) (by omega); rw [← hh] at h_; first | omega | (simp only [List.length_set]; omega)))) rfl ?_
                refine S.q (Qt.ld rfl (Cel.eltM (Src.row 2 rfl) he30) (o := (voff V22 + q * 1)) (off := 0) (by omega) (Cut.one Try.isAgg4 rfl)) rfl ?_
                refine S.p (Pu.move rfl) rfl ?_
                refine by_bool e30 (fun h42 => ?_) (fun h42 => ?_)
                ·
                  refine S.gskip (t := 92) rfl rfl (no_bool (by rw [h42]; decide)) rfl rfl ?_
                  refine S.gskip (t := 92) rfl rfl (no_bool (by rw [h42]; decide)) rfl rfl ?_
                  refine S.gskip (t := 92) rfl rfl (no_bool (by rw [h42]; decide)) rfl rfl ?_
                  refine S.gskip (t := 92) rfl rfl (no_bool (by rw [h42]; decide)) rfl rfl ?_
                  refine S.gskip (t := 92) rfl rfl (no_bool (by rw [h42]; decide)) rfl rfl ?_
                  refine S.gskip (t := 92) rfl rfl (no_bool (by rw [h42]; decide)) rfl rfl ?_
                  refine S.gskip (t := 92) rfl rfl (no_bool (by rw [h42]; decide)) rfl rfl ?_
                  refine S.gskip (t := 92) rfl rfl (no_bool (by rw [h42]; decide)) rfl rfl ?_
                  refine S.gskip (t := 92) rfl rfl (no_bool (by rw [h42]; decide)) rfl rfl ?_
                  refine S.gskip (t := 92) rfl rfl (no_bool (by rw [h42]; decide)) rfl rfl ?_
                  refine S.p (Pu.pickT rfl h42 rfl) rfl ?_
                  refine S.q (Qt.idxM Try.runUnderlying33 Try.sizeOf4 rfl (Src.row 2 rfl) rfl (by first | omega | (have h_ := Jb.heard_len (needs := needs) (l := l) (k := k) (q := q) (by omega); rw [← hh] at h_; first | omega | (simp only [List.length_set]; omega))) (by first | omega | (have h_ := Jb.heard_len (needs := needs) (l := l) (k := k) (q := q) (by omega); rw [← hh] at h_; first | omega | (simp only [List.length_set]; omega)))) rfl ?_
                  refine S.endO ?_
                  refine O.l0 (Lo.storeM 2 (j := q) (off := 0) (vs := [.bool true]) (e := [.bool e30]) true rfl rfl rfl rfl (by omega) he30 rfl (by exact Try.sizeOf4) rfl rfl rfl rfl rfl) ?_
                  rintro _ _ rfl
                  have hs43 : (hs2.set q true)[q]? = some true := List.getElem?_set_self (List.getElem?_eq_some_iff.1 he30).1
                  refine O.nil ?_
                  refine J.seq ?_
                  refine J.region ?_
                  refine O.p (Pu.move rfl) rfl ?_
                  refine O.p (Pu.move rfl) rfl ?_
                  refine O.q (Qt.idxM Try.runUnderlying33 Try.sizeOf4 rfl (Src.row 2 rfl) rfl (by first | omega | (have h_ := Jb.heard_len (needs := needs) (l := l) (k := k) (q := q) (by omega); rw [← hh] at h_; first | omega | (simp only [List.length_set]; omega))) (by first | omega | (have h_ := Jb.heard_len (needs := needs) (l := l) (k := k) (q := q) (by omega); rw [← hh] at h_; first | omega | (simp only [List.length_set]; omega)))) rfl ?_
                  refine O.q (Qt.ld rfl (Cel.eltM (Src.row 2 rfl) hs43) (o := (voff V22 + q * 1)) (off := 0) (by omega) (Cut.one Try.isAgg4 rfl)) rfl ?_
                  refine O.p (Pu.not rfl) rfl ?_
                  refine O.nil ?_
                  refine J.condF rfl rfl ?_
                  refine J.skip ?_
                  refine J.blk ?_
                  refine J.region ?_
                  refine O.p (Pu.move rfl) rfl ?_
                  refine O.p (Pu.add' rfl rfl (by first | omega | (have h_ := Jb.left_le (needs := needs) (l := l) (k := k) (q := q); omega))) rfl ?_
                  refine O.p (Pu.assign rfl) rfl ?_
                  refine O.nil ?_
                  exact J.lp ⟨q + 1, hs2.set q true, !e30, lf⟩ (show (q + 1) ≤ needs.length ∧ (hs2.set q true) = Jb.heardK needs l k (q + 1) ∧ (!e30) = Jb.mineK needs l k (q + 1) c_ ∧ lf = (Jb.leftK needs l k (q + 1) : Int) from (have h_ := Jb.inner_next hh hm hl2 ha he29 he30 hs43 (m' := !e30) (lf' := lf) (by first | rfl | simp_all) (by first | rfl | simp_all) (by first | rfl | simp_all); ⟨by omega, h_.1, h_.2.1, h_.2.2⟩)) (show needs.length - (q + 1) < needs.length - q from (by first | omega | (have h_ := Jb.heard_len (needs := needs) (l := l) (k := k) (q := q) (by omega); rw [← hh] at h_; first | omega | (simp only [List.length_set]; omega)))) ⟨rfl, rfl, rfl, rfl, rfl, rfl, rfl, rfl, (congrArg (fun z => some (Value.int .i64 z)) (by first | rfl | omega : ((q : Int) + 1 : Int) = ((q + 1) : Int))), trivial⟩ [0, 1, 2, 3] (by decide) rfl
                ·
                  refine S.gq (t := 92) rfl rfl h42 rfl (Pu.qt (Pu.move rfl)) rfl ?_
                  refine S.gq (t := 92) rfl rfl h42 rfl (Pu.qt (Pu.move rfl)) rfl ?_
                  refine S.gq (t := 92) rfl rfl h42 rfl (Qt.idxM Try.runUnderlying24 Try.sizeOf3 rfl (Src.ro 0 rfl) rfl (by first | omega | (have h_ := Jb.heard_len (needs := needs) (l := l) (k := k) (q := q) (by omega); rw [← hh] at h_; first | omega | (simp only [List.length_set]; omega))) (by first | omega | (have h_ := Jb.heard_len (needs := needs) (l := l) (k := k) (q := q) (by omega); rw [← hh] at h_; first | omega | (simp only [List.length_set]; omega)))) rfl ?_
                  refine S.gq (t := 92) rfl rfl h42 rfl (Qt.ld rfl (Cel.eltM (Src.ro 0 rfl) he29) (o := (voff nv + q * 1)) (off := 0) (by omega) (Cut.one Try.isAgg3 rfl)) rfl ?_
                  refine S.gq (t := 92) rfl rfl h42 rfl (Pu.qt (Pu.move rfl)) rfl ?_
                  refine S.gq (t := 92) rfl rfl h42 rfl (Pu.qt (Pu.move rfl)) rfl ?_
                  refine S.gq (t := 92) rfl rfl h42 rfl (Qt.idxM Try.runUnderlying25 Try.sizeOf35 rfl (Src.ro 1 rfl) rfl (by first | omega | (have h_ := Jb.heard_len (needs := needs) (l := l) (k := k) (q := q) (by omega); rw [← hh] at h_; first | omega | (simp only [List.length_set]; omega))) (by first | omega | (have h_ := Jb.heard_len (needs := needs) (l := l) (k := k) (q := q) (by omega); rw [← hh] at h_; first | omega | (simp only [List.length_set]; omega)))) rfl ?_
                  refine S.gq (t := 92) rfl rfl h42 rfl (Pu.qt (Pu.fieldAddr (off' := voff lv + ((k : Int)).toNat * 2 + 0) Try.runUnderlying35 rfl Try.sizeOf3 rfl rfl rfl)) rfl ?_
                  refine S.gq (t := 92) rfl rfl h42 rfl (Qt.ld rfl (Cel.eltM (Src.ro 1 rfl) ha) (o := (voff lv + k * 2)) (off := 0) (by omega) (Cut.one Try.isAgg3 rfl)) rfl ?_
                  refine S.gq (t := 92) rfl rfl h42 rfl (Pu.qt (Pu.eql rfl rfl)) rfl ?_
                  refine S.p (Pu.pickF rfl h42 rfl) rfl ?_
                  refine S.q (Qt.idxM Try.runUnderlying33 Try.sizeOf4 rfl (Src.row 2 rfl) rfl (by first | omega | (have h_ := Jb.heard_len (needs := needs) (l := l) (k := k) (q := q) (by omega); rw [← hh] at h_; first | omega | (simp only [List.length_set]; omega))) (by first | omega | (have h_ := Jb.heard_len (needs := needs) (l := l) (k := k) (q := q) (by omega); rw [← hh] at h_; first | omega | (simp only [List.length_set]; omega)))) rfl ?_
                  refine S.endO ?_
                  refine O.l0 (Lo.storeM 2 (j := q) (off := 0) (vs := [.bool (decide (e29 = c_))]) (e := [.bool e30]) (decide (e29 = c_)) rfl rfl rfl rfl (by omega) he30 rfl (by exact Try.sizeOf4) rfl rfl rfl rfl rfl) ?_
                  rintro _ _ rfl
                  have hs44 : (hs2.set q (decide (e29 = c_)))[q]? = some (decide (e29 = c_)) := List.getElem?_set_self (List.getElem?_eq_some_iff.1 he30).1
                  refine O.nil ?_
                  refine J.seq ?_
                  refine J.region ?_
                  refine O.p (Pu.move rfl) rfl ?_
                  refine O.p (Pu.move rfl) rfl ?_
                  refine O.q (Qt.idxM Try.runUnderlying33 Try.sizeOf4 rfl (Src.row 2 rfl) rfl (by first | omega | (have h_ := Jb.heard_len (needs := needs) (l := l) (k := k) (q := q) (by omega); rw [← hh] at h_; first | omega | (simp only [List.length_set]; omega))) (by first | omega | (have h_ := Jb.heard_len (needs := needs) (l := l) (k := k) (q := q) (by omega); rw [← hh] at h_; first | omega | (simp only [List.length_set]; omega)))) rfl ?_
                  refine O.q (Qt.ld rfl (Cel.eltM (Src.row 2 rfl) hs44) (o := (voff V22 + q * 1)) (off := 0) (by omega) (Cut.one Try.isAgg4 rfl)) rfl ?_
                  refine O.p (Pu.not rfl) rfl ?_
                  refine O.nil ?_
                  refine J.condF rfl (not_of_true h40) ?_
                  refine J.skip ?_
                  refine J.blk ?_
                  refine J.region ?_
                  refine O.p (Pu.move rfl) rfl ?_
                  refine O.p (Pu.add' rfl rfl (by first | omega | (have h_ := Jb.left_le (needs := needs) (l := l) (k := k) (q := q); omega))) rfl ?_
                  refine O.p (Pu.assign rfl) rfl ?_
                  refine O.nil ?_
                  exact J.lp ⟨q + 1, hs2.set q (decide (e29 = c_)), !e30, lf⟩ (show (q + 1) ≤ needs.length ∧ (hs2.set q (decide (e29 = c_))) = Jb.heardK needs l k (q + 1) ∧ (!e30) = Jb.mineK needs l k (q + 1) c_ ∧ lf = (Jb.leftK needs l k (q + 1) : Int) from (have h_ := Jb.inner_next hh hm hl2 ha he29 he30 hs44 (m' := !e30) (lf' := lf) (by first | rfl | simp_all) (by first | rfl | simp_all) (by first | rfl | simp_all); ⟨by omega, h_.1, h_.2.1, h_.2.2⟩)) (show needs.length - (q + 1) < needs.length - q from (by first | omega | (have h_ := Jb.heard_len (needs := needs) (l := l) (k := k) (q := q) (by omega); rw [← hh] at h_; first | omega | (simp only [List.length_set]; omega)))) ⟨rfl, rfl, rfl, rfl, rfl, rfl, rfl, rfl, (congrArg (fun z => some (Value.int .i64 z)) (by first | rfl | omega : ((q : Int) + 1 : Int) = ((q + 1) : Int))), trivial⟩ [0, 1, 2, 3] (by decide) rfl
              ·
                have p45 := of_decide_eq_false h40
                refine S.gskip (t := 78) rfl rfl (no_bool (by rw [h40]; decide)) rfl rfl ?_
                refine S.gskip (t := 78) rfl rfl (no_bool (by rw [h40]; decide)) rfl rfl ?_
                refine S.gskip (t := 78) rfl rfl (no_bool (by rw [h40]; decide)) rfl rfl ?_
                refine S.gskip (t := 78) rfl rfl (no_bool (by rw [h40]; decide)) rfl rfl ?_
                refine S.gskip (t := 78) rfl rfl (no_bool (by rw [h40]; decide)) rfl rfl ?_
                refine S.gq (t := 67) rfl rfl h31 rfl (Pu.qt (Pu.pickF rfl h40 rfl)) rfl ?_
                refine S.p (Pu.pickF rfl h31 rfl) rfl ?_
                refine S.p (Pu.assign rfl) rfl ?_
                refine S.endJ ?_
                refine J.seq ?_
                refine J.drawTail 19 Try.mixed (by kernel_rfl) ?_
                refine S.p (Pu.move rfl) rfl ?_
                refine S.p (Pu.move rfl) rfl ?_
                refine S.p (Pu.move rfl) rfl ?_
                refine S.p (Pu.move rfl) rfl ?_
                refine S.q (Qt.idxM Try.runUnderlying33 Try.sizeOf4 rfl (Src.row 2 rfl) rfl (by first | omega | (have h_ := Jb.heard_len (needs := needs) (l := l) (k := k) (q := q) (by omega); rw [← hh] at h_; first | omega | (simp only [List.length_set]; omega))) (by first | omega | (have h_ := Jb.heard_len (needs := needs) (l := l) (k := k) (q := q) (by omega); rw [← hh] at h_; first | omega | (simp only [List.length_set]; omega)))) rfl ?_
                refine S.q (Qt.ld rfl (Cel.eltM (Src.row 2 rfl) he30) (o := (voff V22 + q * 1)) (off := 0) (by omega) (Cut.one Try.isAgg4 rfl)) rfl ?_
                refine S.p (Pu.move rfl) rfl ?_
                refine by_bool e30 (fun h46 => ?_) (fun h46 => ?_)
                ·
                  refine S.gskip (t := 92) rfl rfl (no_bool (by rw [h46]; decide)) rfl rfl ?_
                  refine S.gskip (t := 92) rfl rfl (no_bool (by rw [h46]; decide)) rfl rfl ?_
                  refine S.gskip (t := 92) rfl rfl (no_bool (by rw [h46]; decide)) rfl rfl ?_
                  refine S.gskip (t := 92) rfl rfl (no_bool (by rw [h46]; decide)) rfl rfl ?_
                  refine S.gskip (t := 92) rfl rfl (no_bool (by rw [h46]; decide)) rfl rfl ?_
                  refine S.gskip (t := 92) rfl rfl (no_bool (by rw [h46]; decide)) rfl rfl ?_
                  refine S.gskip (t := 92) rfl rfl (no_bool (by rw [h46]; decide)) rfl rfl ?_
                  refine S.gskip (t := 92) rfl rfl (no_bool (by rw [h46]; decide)) rfl rfl ?_
                  refine S.gskip (t := 92) rfl rfl (no_bool (by rw [h46]; decide)) rfl rfl ?_
                  refine S.gskip (t := 92) rfl rfl (no_bool (by rw [h46]; decide)) rfl rfl ?_
                  refine S.p (Pu.pickT rfl h46 rfl) rfl ?_
                  refine S.q (Qt.idxM Try.runUnderlying33 Try.sizeOf4 rfl (Src.row 2 rfl) rfl (by first | omega | (have h_ := Jb.heard_len (needs := needs) (l := l) (k := k) (q := q) (by omega); rw [← hh] at h_; first | omega | (simp only [List.length_set]; omega))) (by first | omega | (have h_ := Jb.heard_len (needs := needs) (l := l) (k := k) (q := q) (by omega); rw [← hh] at h_; first | omega | (simp only [List.length_set]; omega)))) rfl ?_
                  refine S.endO ?_
                  refine O.l0 (Lo.storeM 2 (j := q) (off := 0) (vs := [.bool true]) (e := [.bool e30]) true rfl rfl rfl rfl (by omega) he30 rfl (by exact Try.sizeOf4) rfl rfl rfl rfl rfl) ?_
                  rintro _ _ rfl
                  have hs47 : (hs2.set q true)[q]? = some true := List.getElem?_set_self (List.getElem?_eq_some_iff.1 he30).1
                  refine O.nil ?_
                  refine J.seq ?_
                  refine J.region ?_
                  refine O.p (Pu.move rfl) rfl ?_
                  refine O.p (Pu.move rfl) rfl ?_
                  refine O.q (Qt.idxM Try.runUnderlying33 Try.sizeOf4 rfl (Src.row 2 rfl) rfl (by first | omega | (have h_ := Jb.heard_len (needs := needs) (l := l) (k := k) (q := q) (by omega); rw [← hh] at h_; first | omega | (simp only [List.length_set]; omega))) (by first | omega | (have h_ := Jb.heard_len (needs := needs) (l := l) (k := k) (q := q) (by omega); rw [← hh] at h_; first | omega | (simp only [List.length_set]; omega)))) rfl ?_
                  refine O.q (Qt.ld rfl (Cel.eltM (Src.row 2 rfl) hs47) (o := (voff V22 + q * 1)) (off := 0) (by omega) (Cut.one Try.isAgg4 rfl)) rfl ?_
                  refine O.p (Pu.not rfl) rfl ?_
                  refine O.nil ?_
                  refine J.condF rfl rfl ?_
                  refine J.skip ?_
                  refine J.blk ?_
                  refine J.region ?_
                  refine O.p (Pu.move rfl) rfl ?_
                  refine O.p (Pu.add' rfl rfl (by first | omega | (have h_ := Jb.left_le (needs := needs) (l := l) (k := k) (q := q); omega))) rfl ?_
                  refine O.p (Pu.assign rfl) rfl ?_
                  refine O.nil ?_
                  exact J.lp ⟨q + 1, hs2.set q true, false, lf⟩ (show (q + 1) ≤ needs.length ∧ (hs2.set q true) = Jb.heardK needs l k (q + 1) ∧ false = Jb.mineK needs l k (q + 1) c_ ∧ lf = (Jb.leftK needs l k (q + 1) : Int) from (have h_ := Jb.inner_next hh hm hl2 ha he29 he30 hs47 (m' := false) (lf' := lf) (by first | rfl | simp_all) (by first | rfl | simp_all) (by first | rfl | simp_all); ⟨by omega, h_.1, h_.2.1, h_.2.2⟩)) (show needs.length - (q + 1) < needs.length - q from (by first | omega | (have h_ := Jb.heard_len (needs := needs) (l := l) (k := k) (q := q) (by omega); rw [← hh] at h_; first | omega | (simp only [List.length_set]; omega)))) ⟨rfl, rfl, rfl, rfl, rfl, rfl, rfl, rfl, (congrArg (fun z => some (Value.int .i64 z)) (by first | rfl | omega : ((q : Int) + 1 : Int) = ((q + 1) : Int))), trivial⟩ [0, 1, 2, 3] (by decide) rfl
                ·
                  refine S.gq (t := 92) rfl rfl h46 rfl (Pu.qt (Pu.move rfl)) rfl ?_
                  refine S.gq (t := 92) rfl rfl h46 rfl (Pu.qt (Pu.move rfl)) rfl ?_
                  refine S.gq (t := 92) rfl rfl h46 rfl (Qt.idxM Try.runUnderlying24 Try.sizeOf3 rfl (Src.ro 0 rfl) rfl (by first | omega | (have h_ := Jb.heard_len (needs := needs) (l := l) (k := k) (q := q) (by omega); rw [← hh] at h_; first | omega | (simp only [List.length_set]; omega))) (by first | omega | (have h_ := Jb.heard_len (needs := needs) (l := l) (k := k) (q := q) (by omega); rw [← hh] at h_; first | omega | (simp only [List.length_set]; omega)))) rfl ?_
                  refine S.gq (t := 92) rfl rfl h46 rfl (Qt.ld rfl (Cel.eltM (Src.ro 0 rfl) he29) (o := (voff nv + q * 1)) (off := 0) (by omega) (Cut.one Try.isAgg3 rfl)) rfl ?_
                  refine S.gq (t := 92) rfl rfl h46 rfl (Pu.qt (Pu.move rfl)) rfl ?_
                  refine S.gq (t := 92) rfl rfl h46 rfl (Pu.qt (Pu.move rfl)) rfl ?_
                  refine S.gq (t := 92) rfl rfl h46 rfl (Qt.idxM Try.runUnderlying25 Try.sizeOf35 rfl (Src.ro 1 rfl) rfl (by first | omega | (have h_ := Jb.heard_len (needs := needs) (l := l) (k := k) (q := q) (by omega); rw [← hh] at h_; first | omega | (simp only [List.length_set]; omega))) (by first | omega | (have h_ := Jb.heard_len (needs := needs) (l := l) (k := k) (q := q) (by omega); rw [← hh] at h_; first | omega | (simp only [List.length_set]; omega)))) rfl ?_
                  refine S.gq (t := 92) rfl rfl h46 rfl (Pu.qt (Pu.fieldAddr (off' := voff lv + ((k : Int)).toNat * 2 + 0) Try.runUnderlying35 rfl Try.sizeOf3 rfl rfl rfl)) rfl ?_
                  refine S.gq (t := 92) rfl rfl h46 rfl (Qt.ld rfl (Cel.eltM (Src.ro 1 rfl) ha) (o := (voff lv + k * 2)) (off := 0) (by omega) (Cut.one Try.isAgg3 rfl)) rfl ?_
                  refine S.gq (t := 92) rfl rfl h46 rfl (Pu.qt (Pu.eql rfl rfl)) rfl ?_
                  refine S.p (Pu.pickF rfl h46 rfl) rfl ?_
                  refine S.q (Qt.idxM Try.runUnderlying33 Try.sizeOf4 rfl (Src.row 2 rfl) rfl (by first | omega | (have h_ := Jb.heard_len (needs := needs) (l := l) (k := k) (q := q) (by omega); rw [← hh] at h_; first | omega | (simp only [List.length_set]; omega))) (by first | omega | (have h_ := Jb.heard_len (needs := needs) (l := l) (k := k) (q := q) (by omega); rw [← hh] at h_; first | omega | (simp only [List.length_set]; omega)))) rfl ?_
                  refine S.endO ?_
                  refine O.l0 (Lo.storeM 2 (j := q) (off := 0) (vs := [.bool (decide (e29 = c_))]) (e := [.bool e30]) (decide (e29 = c_)) rfl rfl rfl rfl (by omega) he30 rfl (by exact Try.sizeOf4) rfl rfl rfl rfl rfl) ?_
                  rintro _ _ rfl
                  have hs48 : (hs2.set q (decide (e29 = c_)))[q]? = some (decide (e29 = c_)) := List.getElem?_set_self (List.getElem?_eq_some_iff.1 he30).1
                  refine O.nil ?_
                  refine J.seq ?_
                  refine J.region ?_
                  refine O.p (Pu.move rfl) rfl ?_
                  refine O.p (Pu.move rfl) rfl ?_
                  refine O.q (Qt.idxM Try.runUnderlying33 Try.sizeOf4 rfl (Src.row 2 rfl) rfl (by first | omega | (have h_ := Jb.heard_len (needs := needs) (l := l) (k := k) (q := q) (by omega); rw [← hh] at h_; first | omega | (simp only [List.length_set]; omega))) (by first | omega | (have h_ := Jb.heard_len (needs := needs) (l := l) (k := k) (q := q) (by omega); rw [← hh] at h_; first | omega | (simp only [List.length_set]; omega)))) rfl ?_
                  refine O.q (Qt.ld rfl (Cel.eltM (Src.row 2 rfl) hs48) (o := (voff V22 + q * 1)) (off := 0) (by omega) (Cut.one Try.isAgg4 rfl)) rfl ?_
                  refine O.p (Pu.not rfl) rfl ?_
                  refine O.nil ?_
                  refine J.condT rfl (not_of_false h40) ?_
                  refine J.region ?_
                  refine O.p (Pu.move rfl) rfl ?_
                  refine O.p (Pu.add' rfl rfl (by first | omega | (have h_ := Jb.left_le (needs := needs) (l := l) (k := k) (q := q); omega))) rfl ?_
                  refine O.p (Pu.assign rfl) rfl ?_
                  refine O.nil ?_
                  refine J.blk ?_
                  refine J.region ?_
                  refine O.p (Pu.move rfl) rfl ?_
                  refine O.p (Pu.add' rfl rfl (by first | omega | (have h_ := Jb.left_le (needs := needs) (l := l) (k := k) (q := q); omega))) rfl ?_
                  refine O.p (Pu.assign rfl) rfl ?_
                  refine O.nil ?_
                  exact J.lp ⟨q + 1, hs2.set q (decide (e29 = c_)), false, lf + 1⟩ (show (q + 1) ≤ needs.length ∧ (hs2.set q (decide (e29 = c_))) = Jb.heardK needs l k (q + 1) ∧ false = Jb.mineK needs l k (q + 1) c_ ∧ (lf + 1) = (Jb.leftK needs l k (q + 1) : Int) from (have h_ := Jb.inner_next hh hm hl2 ha he29 he30 hs48 (m' := false) (lf' := lf + 1) (by first | rfl | simp_all) (by first | rfl | simp_all) (by first | rfl | simp_all); ⟨by omega, h_.1, h_.2.1, h_.2.2⟩)) (show needs.length - (q + 1) < needs.length - q from (by first | omega | (have h_ := Jb.heard_len (needs := needs) (l := l) (k := k) (q := q) (by omega); rw [← hh] at h_; first | omega | (simp only [List.length_set]; omega)))) ⟨rfl, rfl, rfl, rfl, rfl, rfl, rfl, rfl, (congrArg (fun z => some (Value.int .i64 z)) (by first | rfl | omega : ((q : Int) + 1 : Int) = ((q + 1) : Int))), trivial⟩ [0, 1, 2, 3] (by decide) rfl
          ·
            have p49 := of_decide_eq_false h27
            refine J.exit _ rfl ?_
            refine J.seq ?_
            refine by_bool (decide (c_ ∈ R)) (fun h50 => ?_) (fun h50 => ?_)
            ·
              have p51 := of_decide_eq_true h50
              have hmr : m = true := (by rw [hm, Jb.mine_all (by omega), ← hR]; exact h50)
              subst hmr
              refine by_bool (decide (d_ = 1)) (fun h52 => ?_) (fun h52 => ?_)
              ·
                have p53 := of_decide_eq_true h52
                obtain rfl : d_ = 1 := of_decide_eq_true h52
                refine by_bool (decide (Jb.without R c_ = [])) (fun h54 => ?_) (fun h54 => ?_)
                ·
                  have p55 := of_decide_eq_true h54
                  have hz2 : decide (lf = 0) = true := (Bool.eq_iff_iff.2 (by rw [decide_eq_true_eq, decide_eq_true_eq]; exact (show lf = 0 ↔ Jb.without R c_ = [] from (by have h1_ := Jb.left_all (l := l) (k := k) (needs := needs) (q := q) (by omega); rw [Jb.rem_next ha, ← hR] at h1_; rw [← h1_, hl2]; omega)))).trans h54
                  refine J.drawA Try.mixed ?_
                  refine A.edge 11 15 rfl ?_ ?_
                  ·
                    refine A.mix [(0, false), (1, false), (2, false), (3, false), (4, false), (5, false), (6, false), (7, false), (8, false), (9, false), (10, false), (15, true), (11, true), (12, false), (13, false), (14, false), (16, true), (17, false)] [1] [var g20 [.int .i64 x0, .int .i64 x1, .int .i64 x2, .int .i64 x3, .int .i64 x4, .int .i64 x5, .int .i64 x6, .int .i64 2, V] 28] (by kernel_rfl) (by decide) rfl ?_
                    refine Mx.q rfl (Qt.ld rfl (Cel.var 0 rfl) (o := 0) (off := 0) rfl (Cut.agg [.int .i64 x0, .int .i64 x1, .int .i64 x2, .int .i64 x3, .int .i64 x4, .int .i64 x5, .int .i64 x6, .int .i64 2, V] Try.isAgg28 Try.sizeOf28 rfl rfl)) rfl ?_
                    refine Mx.p rfl (Pu.move rfl) rfl ?_
                    refine Mx.p rfl (Pu.move rfl) rfl ?_
                    refine Mx.q rfl (Qt.idxM Try.runUnderlying25 Try.sizeOf35 rfl (Src.ro 1 rfl) rfl (by first | omega | (have h_ := Jb.heard_len (needs := needs) (l := l) (k := k) (q := q) (by omega); rw [← hh] at h_; first | omega | (simp only [List.length_set]; omega))) (by first | omega | (have h_ := Jb.heard_len (needs := needs) (l := l) (k := k) (q := q) (by omega); rw [← hh] at h_; first | omega | (simp only [List.length_set]; omega)))) rfl ?_
                    refine Mx.p rfl (Pu.fieldAddr (off' := voff lv + ((k : Int)).toNat * 2 + 0) Try.runUnderlying35 rfl Try.sizeOf3 rfl rfl rfl) rfl ?_
                    refine Mx.q rfl (Qt.ld rfl (Cel.eltM (Src.ro 1 rfl) ha) (o := (voff lv + k * 2)) (off := 0) (by omega) (Cut.one Try.isAgg3 rfl)) rfl ?_
                    refine Mx.p rfl (Pu.move rfl) rfl ?_
                    refine Mx.p rfl (Pu.move rfl) rfl ?_
                    refine Mx.q rfl (Qt.idxM Try.runUnderlying25 Try.sizeOf35 rfl (Src.ro 1 rfl) rfl (by first | omega | (have h_ := Jb.heard_len (needs := needs) (l := l) (k := k) (q := q) (by omega); rw [← hh] at h_; first | omega | (simp only [List.length_set]; omega))) (by first | omega | (have h_ := Jb.heard_len (needs := needs) (l := l) (k := k) (q := q) (by omega); rw [← hh] at h_; first | omega | (simp only [List.length_set]; omega)))) rfl ?_
                    refine Mx.p rfl (Pu.fieldAddr (off' := voff lv + ((k : Int)).toNat * 2 + 1) Try.runUnderlying35 rfl Try.sizeOf3 rfl rfl rfl) rfl ?_
                    refine Mx.q rfl (Qt.ld rfl (Cel.eltM (Src.ro 1 rfl) ha) (o := (voff lv + k * 2)) (off := 1) (by omega) (Cut.one Try.isAgg3 rfl)) rfl ?_
                    refine Mx.l rfl (Lo.alloc [.int .i64 0, .int .i64 0, .int .i64 0, .int .i64 0, .int .i64 0, .int .i64 0, .int .i64 0, .int .i64 0, Value.slice none 0 0] (by exact Try.zeroValue28) rfl) rfl ?_
                    rintro _ _ ⟨g56, rfl, rfl⟩
                    refine MxK.go [2] [0] [var g20 [.int .i64 x0, .int .i64 x1, .int .i64 x2, .int .i64 x3, .int .i64 x4, .int .i64 x5, .int .i64 x6, .int .i64 2, V] 28] (by decide) rfl (by decide) rfl ?_
                    refine Mx.l rfl (Lo.call [.agg #[.int .i64 x0, .int .i64 x1, .int .i64 x2, .int .i64 x3, .int .i64 x4, .int .i64 x5, .int .i64 x6, .int .i64 2, V], .int .i64 c_, .int .i64 1] (by exact Try.call14) rfl (jb_HeardE x0 x1 x2 x3 x4 x5 x6 V R c_ (by first | omega | (rw [hR]; have h_ := Jb.rem_len (needs := needs) (l := l) (k := k); omega)) (of_decide_eq_true h50) (by rw [hR]; exact Jb.rem_up) (of_decide_eq_true h54)) [] [0, 1, 2, 3, 4] (by decide) rfl [var g56 [.int .i64 0, .int .i64 0, .int .i64 0, .int .i64 0, .int .i64 0, .int .i64 0, .int .i64 0, .int .i64 0, Value.slice none 0 0] 28, var g1 [.int .i64 x0, .int .i64 x1, .int .i64 x2, .int .i64 x3, .int .i64 x4, .int .i64 x5, .int .i64 x6] 23, var g20 [.int .i64 x0, .int .i64 x1, .int .i64 x2, .int .i64 x3, .int .i64 x4, .int .i64 x5, .int .i64 x6, .int .i64 2, V] 28, row V22 4 1 (hs2.map encBo), row V 3 1 (R.map encZ)] rfl (RoOk.of 4 rfl row_rd [] (by decide) rfl RoOk.nil)) rfl ?_
                    rintro _ _ ⟨_, ⟨rfl, rfl⟩, rfl⟩
                    refine MxK.go [2] [0] [var g20 [.int .i64 x0, .int .i64 x1, .int .i64 x2, .int .i64 x3, .int .i64 x4, .int .i64 x5, .int .i64 x6, .int .i64 2, V] 28] (by decide) rfl (by decide) rfl ?_
                    refine Mx.p rfl (Pu.move rfl) rfl ?_
                    refine Mx.p rfl (Pu.extract rfl rfl) rfl ?_
                    refine Mx.p rfl (Pu.extract rfl rfl) rfl ?_
                    refine Mx.l0 rfl (Lo.store 0 (vs := [.int .i64 0, .int .i64 0, .int .i64 0, .int .i64 0, .int .i64 0, .int .i64 0, .int .i64 0, .int .i64 0, Value.slice none 0 0]) [.int .i64 0, .int .i64 0, .int .i64 0, .int .i64 0, .int .i64 0, .int .i64 0, .int .i64 0, .int .i64 0, Value.slice none 0 0] rfl rfl rfl (by exact Try.sizeOf28) rfl rfl rfl rfl rfl) ?_
                    rintro _ _ rfl
                    refine MxK.go [2] [0] [var g20 [.int .i64 x0, .int .i64 x1, .int .i64 x2, .int .i64 x3, .int .i64 x4, .int .i64 x5, .int .i64 x6, .int .i64 2, V] 28] (by decide) rfl (by decide) rfl ?_
                    refine Mx.p rfl (Pu.assign rfl) rfl ?_
                    refine Mx.nil ?_
                    refine J.seq ?_
                    refine J.region ?_
                    refine O.p (Pu.assign rfl) rfl ?_
                    refine O.nil ?_
                    refine J.seq ?_
                    refine J.seq ?_
                    refine J.region ?_
                    refine O.p (Pu.move rfl) rfl ?_
                    refine O.p (Pu.move rfl) rfl ?_
                    refine O.gq (t := 128) rfl rfl rfl rfl (Pu.qt (Pu.move rfl)) rfl ?_
                    refine O.gq (t := 128) rfl rfl rfl rfl (Pu.qt (Pu.move rfl)) rfl ?_
                    refine O.gq (t := 128) rfl rfl rfl rfl (Qt.idxM Try.runUnderlying25 Try.sizeOf35 rfl (Src.ro 1 rfl) rfl (by first | omega | (have h_ := Jb.heard_len (needs := needs) (l := l) (k := k) (q := q) (by omega); rw [← hh] at h_; first | omega | (simp only [List.length_set]; omega))) (by first | omega | (have h_ := Jb.heard_len (needs := needs) (l := l) (k := k) (q := q) (by omega); rw [← hh] at h_; first | omega | (simp only [List.length_set]; omega)))) rfl ?_
                    refine O.gq (t := 128) rfl rfl rfl rfl (Pu.qt (Pu.fieldAddr (off' := voff lv + ((k : Int)).toNat * 2 + 1) Try.runUnderlying35 rfl Try.sizeOf3 rfl rfl rfl)) rfl ?_
                    refine O.gq (t := 128) rfl rfl rfl rfl (Qt.ld rfl (Cel.eltM (Src.ro 1 rfl) ha) (o := (voff lv + k * 2)) (off := 1) (by omega) (Cut.one Try.isAgg3 rfl)) rfl ?_
                    refine O.gq (t := 128) rfl rfl rfl rfl (Pu.qt (Pu.neq rfl rfl)) rfl ?_
                    refine O.p (Pu.pickT rfl rfl rfl) rfl ?_
                    refine O.nil ?_
                    refine J.condF rfl rfl ?_
                    refine J.seq ?_
                    refine J.region ?_
                    refine O.p (Pu.move rfl) rfl ?_
                    refine O.p (Pu.move rfl) rfl ?_
                    refine O.gq (t := 137) rfl rfl rfl rfl (Pu.qt (Pu.move rfl)) rfl ?_
                    refine O.gq (t := 137) rfl rfl rfl rfl (Pu.qt (Pu.eql rfl rfl)) rfl ?_
                    refine O.p (Pu.pickT rfl rfl rfl) rfl ?_
                    refine O.nil ?_
                    refine J.condT rfl hz2 ?_
                    refine J.region ?_
                    refine O.p (Pu.assign rfl) rfl ?_
                    refine O.nil ?_
                    refine J.seq ?_
                    refine J.seq ?_
                    refine J.region ?_
                    refine O.p (Pu.move rfl) rfl ?_
                    refine O.p (Pu.move rfl) rfl ?_
                    refine O.p (Pu.neq rfl rfl) rfl ?_
                    refine O.p (Pu.move rfl) rfl ?_
                    refine O.gq (t := 144) rfl rfl rfl rfl (Pu.qt (Pu.move rfl)) rfl ?_
                    refine O.gq (t := 144) rfl rfl rfl rfl (Pu.qt (Pu.not rfl)) rfl ?_
                    refine O.gq (t := 144) rfl rfl rfl rfl (Pu.qt (Pu.move rfl)) rfl ?_
                    refine O.gskip (t := 147) rfl rfl (no_bool (by decide)) rfl rfl ?_
                    refine O.gskip (t := 147) rfl rfl (no_bool (by decide)) rfl rfl ?_
                    refine O.gskip (t := 147) rfl rfl (no_bool (by decide)) rfl rfl ?_
                    refine O.gskip (t := 147) rfl rfl (no_bool (by decide)) rfl rfl ?_
                    refine O.gq (t := 144) rfl rfl rfl rfl (Pu.qt (Pu.pickF rfl rfl rfl)) rfl ?_
                    refine O.p (Pu.pickF rfl rfl rfl) rfl ?_
                    refine O.nil ?_
                    refine J.condF rfl rfl ?_
                    refine J.skip ?_
                    refine J.seq ?_
                    refine J.seq ?_
                    refine J.region ?_
                    refine O.p (Pu.move rfl) rfl ?_
                    refine O.p (Pu.neq rfl rfl) rfl ?_
                    refine O.nil ?_
                    refine J.condT rfl rfl ?_
                    refine J.seq ?_
                    refine J.region ?_
                    refine O.l (Lo.call [] (by exact Try.call11) rfl law32_awake [] [0, 1, 2, 3, 4] (by decide) rfl [var g56 [.int .i64 0, .int .i64 0, .int .i64 0, .int .i64 0, .int .i64 0, .int .i64 0, .int .i64 0, .int .i64 0, Value.slice none 0 0] 28, var g1 [.int .i64 x0, .int .i64 x1, .int .i64 x2, .int .i64 x3, .int .i64 x4, .int .i64 x5, .int .i64 x6] 23, var g20 [.int .i64 x0, .int .i64 x1, .int .i64 x2, .int .i64 x3, .int .i64 x4, .int .i64 x5, .int .i64 x6, .int .i64 2, V] 28, row V22 4 1 (hs2.map encBo), row V 3 1 (R.map encZ)] rfl RoOk.nil) rfl ?_
                    rintro _ _ ⟨_, ⟨rfl, rfl⟩, rfl⟩
                    refine O.p (Pu.assign rfl) rfl ?_
                    refine O.nil ?_
                    exact J.ret (Fin.ret (rs := [.tmp 6]) rfl [_] ⟨rfl, trivial⟩ [] (by decide) [] rfl ⟨rfl, rfl⟩)
                  ·
                    refine A.mix [(0, false), (1, false), (2, false), (3, false), (4, false), (5, false), (6, false), (7, false), (8, false), (9, false), (10, false), (11, true), (12, false), (13, false), (14, false), (15, true), (16, true), (17, false)] [1] [var g20 [.int .i64 x0, .int .i64 x1, .int .i64 x2, .int .i64 x3, .int .i64 x4, .int .i64 x5, .int .i64 x6, .int .i64 2, V] 28] (by kernel_rfl) (by decide) rfl ?_
                    refine Mx.q rfl (Qt.ld rfl (Cel.var 0 rfl) (o := 0) (off := 0) rfl (Cut.agg [.int .i64 x0, .int .i64 x1, .int .i64 x2, .int .i64 x3, .int .i64 x4, .int .i64 x5, .int .i64 x6, .int .i64 2, V] Try.isAgg28 Try.sizeOf28 rfl rfl)) rfl ?_
                    refine Mx.p rfl (Pu.move rfl) rfl ?_
                    refine Mx.p rfl (Pu.move rfl) rfl ?_
                    refine Mx.q rfl (Qt.idxM Try.runUnderlying25 Try.sizeOf35 rfl (Src.ro 1 rfl) rfl (by first | omega | (have h_ := Jb.heard_len (needs := needs) (l := l) (k := k) (q := q) (by omega); rw [← hh] at h_; first | omega | (simp only [List.length_set]; omega))) (by first | omega | (have h_ := Jb.heard_len (needs := needs) (l := l) (k := k) (q := q) (by omega); rw [← hh] at h_; first | omega | (simp only [List.length_set]; omega)))) rfl ?_
                    refine Mx.p rfl (Pu.fieldAddr (off' := voff lv + ((k : Int)).toNat * 2 + 0) Try.runUnderlying35 rfl Try.sizeOf3 rfl rfl rfl) rfl ?_
                    refine Mx.q rfl (Qt.ld rfl (Cel.eltM (Src.ro 1 rfl) ha) (o := (voff lv + k * 2)) (off := 0) (by omega) (Cut.one Try.isAgg3 rfl)) rfl ?_
                    refine Mx.p rfl (Pu.move rfl) rfl ?_
                    refine Mx.p rfl (Pu.move rfl) rfl ?_
                    refine Mx.q rfl (Qt.idxM Try.runUnderlying25 Try.sizeOf35 rfl (Src.ro 1 rfl) rfl (by first | omega | (have h_ := Jb.heard_len (needs := needs) (l := l) (k := k) (q := q) (by omega); rw [← hh] at h_; first | omega | (simp only [List.length_set]; omega))) (by first | omega | (have h_ := Jb.heard_len (needs := needs) (l := l) (k := k) (q := q) (by omega); rw [← hh] at h_; first | omega | (simp only [List.length_set]; omega)))) rfl ?_
                    refine Mx.p rfl (Pu.fieldAddr (off' := voff lv + ((k : Int)).toNat * 2 + 1) Try.runUnderlying35 rfl Try.sizeOf3 rfl rfl rfl) rfl ?_
                    refine Mx.q rfl (Qt.ld rfl (Cel.eltM (Src.ro 1 rfl) ha) (o := (voff lv + k * 2)) (off := 1) (by omega) (Cut.one Try.isAgg3 rfl)) rfl ?_
                    refine Mx.l rfl (Lo.call [.agg #[.int .i64 x0, .int .i64 x1, .int .i64 x2, .int .i64 x3, .int .i64 x4, .int .i64 x5, .int .i64 x6, .int .i64 2, V], .int .i64 c_, .int .i64 1] (by exact Try.call14) rfl (jb_HeardE x0 x1 x2 x3 x4 x5 x6 V R c_ (by first | omega | (rw [hR]; have h_ := Jb.rem_len (needs := needs) (l := l) (k := k); omega)) (of_decide_eq_true h50) (by rw [hR]; exact Jb.rem_up) (of_decide_eq_true h54)) [] [0, 1, 2, 3] (by decide) rfl [var g1 [.int .i64 x0, .int .i64 x1, .int .i64 x2, .int .i64 x3, .int .i64 x4, .int .i64 x5, .int .i64 x6] 23, var g20 [.int .i64 x0, .int .i64 x1, .int .i64 x2, .int .i64 x3, .int .i64 x4, .int .i64 x5, .int .i64 x6, .int .i64 2, V] 28, row V22 4 1 (hs2.map encBo), row V 3 1 (R.map encZ)] rfl (RoOk.of 3 rfl row_rd [] (by decide) rfl RoOk.nil)) rfl ?_
                    rintro _ _ ⟨_, ⟨rfl, rfl⟩, rfl⟩
                    refine MxK.go [1] [0] [var g20 [.int .i64 x0, .int .i64 x1, .int .i64 x2, .int .i64 x3, .int .i64 x4, .int .i64 x5, .int .i64 x6, .int .i64 2, V] 28] (by decide) rfl (by decide) rfl ?_
                    refine Mx.p rfl (Pu.move rfl) rfl ?_
                    refine Mx.p rfl (Pu.extract rfl rfl) rfl ?_
                    refine Mx.p rfl (Pu.extract rfl rfl) rfl ?_
                    refine Mx.l rfl (Lo.alloc [.int .i64 0, .int .i64 0, .int .i64 0, .int .i64 0, .int .i64 0, .int .i64 0, .int .i64 0, .int .i64 0, Value.slice none 0 0] (by exact Try.zeroValue28) rfl) rfl ?_
                    rintro _ _ ⟨g60, rfl, rfl⟩
                    refine MxK.go [2] [0] [var g20 [.int .i64 x0, .int .i64 x1, .int .i64 x2, .int .i64 x3, .int .i64 x4, .int .i64 x5, .int .i64 x6, .int .i64 2, V] 28] (by decide) rfl (by decide) rfl ?_
                    refine Mx.l0 rfl (Lo.store 0 (vs := [.int .i64 0, .int .i64 0, .int .i64 0, .int .i64 0, .int .i64 0, .int .i64 0, .int .i64 0, .int .i64 0, Value.slice none 0 0]) [.int .i64 0, .int .i64 0, .int .i64 0, .int .i64 0, .int .i64 0, .int .i64 0, .int .i64 0, .int .i64 0, Value.slice none 0 0] rfl rfl rfl (by exact Try.sizeOf28) rfl rfl rfl rfl rfl) ?_
                    rintro _ _ rfl
                    refine MxK.go [2] [0] [var g20 [.int .i64 x0, .int .i64 x1, .int .i64 x2, .int .i64 x3, .int .i64 x4, .int .i64 x5, .int .i64 x6, .int .i64 2, V] 28] (by decide) rfl (by decide) rfl ?_
                    refine Mx.p rfl (Pu.assign rfl) rfl ?_
                    refine Mx.nil ?_
                    refine J.seq ?_
                    refine J.region ?_
                    refine O.p (Pu.assign rfl) rfl ?_
                    refine O.nil ?_
                    refine J.seq ?_
                    refine J.seq ?_
                    refine J.region ?_
                    refine O.p (Pu.move rfl) rfl ?_
                    refine O.p (Pu.move rfl) rfl ?_
                    refine O.gq (t := 128) rfl rfl rfl rfl (Pu.qt (Pu.move rfl)) rfl ?_
                    refine O.gq (t := 128) rfl rfl rfl rfl (Pu.qt (Pu.move rfl)) rfl ?_
                    refine O.gq (t := 128) rfl rfl rfl rfl (Qt.idxM Try.runUnderlying25 Try.sizeOf35 rfl (Src.ro 1 rfl) rfl (by first | omega | (have h_ := Jb.heard_len (needs := needs) (l := l) (k := k) (q := q) (by omega); rw [← hh] at h_; first | omega | (simp only [List.length_set]; omega))) (by first | omega | (have h_ := Jb.heard_len (needs := needs) (l := l) (k := k) (q := q) (by omega); rw [← hh] at h_; first | omega | (simp only [List.length_set]; omega)))) rfl ?_
                    refine O.gq (t := 128) rfl rfl rfl rfl (Pu.qt (Pu.fieldAddr (off' := voff lv + ((k : Int)).toNat * 2 + 1) Try.runUnderlying35 rfl Try.sizeOf3 rfl rfl rfl)) rfl ?_
                    refine O.gq (t := 128) rfl rfl rfl rfl (Qt.ld rfl (Cel.eltM (Src.ro 1 rfl) ha) (o := (voff lv + k * 2)) (off := 1) (by omega) (Cut.one Try.isAgg3 rfl)) rfl ?_
                    refine O.gq (t := 128) rfl rfl rfl rfl (Pu.qt (Pu.neq rfl rfl)) rfl ?_
                    refine O.p (Pu.pickT rfl rfl rfl) rfl ?_
                    refine O.nil ?_
                    refine J.condF rfl rfl ?_
                    refine J.seq ?_
                    refine J.region ?_
                    refine O.p (Pu.move rfl) rfl ?_
                    refine O.p (Pu.move rfl) rfl ?_
                    refine O.gq (t := 137) rfl rfl rfl rfl (Pu.qt (Pu.move rfl)) rfl ?_
                    refine O.gq (t := 137) rfl rfl rfl rfl (Pu.qt (Pu.eql rfl rfl)) rfl ?_
                    refine O.p (Pu.pickT rfl rfl rfl) rfl ?_
                    refine O.nil ?_
                    refine J.condT rfl hz2 ?_
                    refine J.region ?_
                    refine O.p (Pu.assign rfl) rfl ?_
                    refine O.nil ?_
                    refine J.seq ?_
                    refine J.seq ?_
                    refine J.region ?_
                    refine O.p (Pu.move rfl) rfl ?_
                    refine O.p (Pu.move rfl) rfl ?_
                    refine O.p (Pu.neq rfl rfl) rfl ?_
                    refine O.p (Pu.move rfl) rfl ?_
                    refine O.gq (t := 144) rfl rfl rfl rfl (Pu.qt (Pu.move rfl)) rfl ?_
                    refine O.gq (t := 144) rfl rfl rfl rfl (Pu.qt (Pu.not rfl)) rfl ?_
                    refine O.gq (t := 144) rfl rfl rfl rfl (Pu.qt (Pu.move rfl)) rfl ?_
                    refine O.gskip (t := 147) rfl rfl (no_bool (by decide)) rfl rfl ?_
                    refine O.gskip (t := 147) rfl rfl (no_bool (by decide)) rfl rfl ?_
                    refine O.gskip (t := 147) rfl rfl (no_bool (by decide)) rfl rfl ?_
                    refine O.gskip (t := 147) rfl rfl (no_bool (by decide)) rfl rfl ?_
                    refine O.gq (t := 144) rfl rfl rfl rfl (Pu.qt (Pu.pickF rfl rfl rfl)) rfl ?_
                    refine O.p (Pu.pickF rfl rfl rfl) rfl ?_
                    refine O.nil ?_
                    refine J.condF rfl rfl ?_
                    refine J.skip ?_
                    refine J.seq ?_
                    refine J.seq ?_
                    refine J.region ?_
                    refine O.p (Pu.move rfl) rfl ?_
                    refine O.p (Pu.neq rfl rfl) rfl ?_
                    refine O.nil ?_
                    refine J.condT rfl rfl ?_
                    refine J.seq ?_
                    refine J.region ?_
                    refine O.l (Lo.call [] (by exact Try.call11) rfl law32_awake [] [0, 1, 2, 3, 4] (by decide) rfl [var g60 [.int .i64 0, .int .i64 0, .int .i64 0, .int .i64 0, .int .i64 0, .int .i64 0, .int .i64 0, .int .i64 0, Value.slice none 0 0] 28, var g1 [.int .i64 x0, .int .i64 x1, .int .i64 x2, .int .i64 x3, .int .i64 x4, .int .i64 x5, .int .i64 x6] 23, var g20 [.int .i64 x0, .int .i64 x1, .int .i64 x2, .int .i64 x3, .int .i64 x4, .int .i64 x5, .int .i64 x6, .int .i64 2, V] 28, row V22 4 1 (hs2.map encBo), row V 3 1 (R.map encZ)] rfl RoOk.nil) rfl ?_
                    rintro _ _ ⟨_, ⟨rfl, rfl⟩, rfl⟩
                    refine O.p (Pu.assign rfl) rfl ?_
                    refine O.nil ?_
                    exact J.ret (Fin.ret (rs := [.tmp 6]) rfl [_] ⟨rfl, trivial⟩ [] (by decide) [] rfl ⟨rfl, rfl⟩)
                ·
                  have p62 := of_decide_eq_false h54
                  have hz2 : decide (lf = 0) = false := (Bool.eq_iff_iff.2 (by rw [decide_eq_true_eq, decide_eq_true_eq]; exact (show lf = 0 ↔ Jb.without R c_ = [] from (by have h1_ := Jb.left_all (l := l) (k := k) (needs := needs) (q := q) (by omega); rw [Jb.rem_next ha, ← hR] at h1_; rw [← h1_, hl2]; omega)))).trans h54
                  refine J.drawA Try.mixed ?_
                  refine A.edge 11 15 rfl ?_ ?_
                  ·
                    refine A.mix [(0, false), (1, false), (2, false), (3, false), (4, false), (5, false), (6, false), (7, false), (8, false), (9, false), (10, false), (15, true), (11, true), (12, false), (13, false), (14, false), (16, true), (17, false)] [1] [var g20 [.int .i64 x0, .int .i64 x1, .int .i64 x2, .int .i64 x3, .int .i64 x4, .int .i64 x5, .int .i64 x6, .int .i64 2, V] 28] (by kernel_rfl) (by decide) rfl ?_
                    refine Mx.q rfl (Qt.ld rfl (Cel.var 0 rfl) (o := 0) (off := 0) rfl (Cut.agg [.int .i64 x0, .int .i64 x1, .int .i64 x2, .int .i64 x3, .int .i64 x4, .int .i64 x5, .int .i64 x6, .int .i64 2, V] Try.isAgg28 Try.sizeOf28 rfl rfl)) rfl ?_
                    refine Mx.p rfl (Pu.move rfl) rfl ?_
                    refine Mx.p rfl (Pu.move rfl) rfl ?_
                    refine Mx.q rfl (Qt.idxM Try.runUnderlying25 Try.sizeOf35 rfl (Src.ro 1 rfl) rfl (by first | omega | (have h_ := Jb.heard_len (needs := needs) (l := l) (k := k) (q := q) (by omega); rw [← hh] at h_; first | omega | (simp only [List.length_set]; omega))) (by first | omega | (have h_ := Jb.heard_len (needs := needs) (l := l) (k := k) (q := q) (by omega); rw [← hh] at h_; first | omega | (simp only [List.length_set]; omega)))) rfl ?_
                    refine Mx.p rfl (Pu.fieldAddr (off' := voff lv + ((k : Int)).toNat * 2 + 0) Try.runUnderlying35 rfl Try.sizeOf3 rfl rfl rfl) rfl ?_
                    refine Mx.q rfl (Qt.ld rfl (Cel.eltM (Src.ro 1 rfl) ha) (o := (voff lv + k * 2)) (off := 0) (by omega) (Cut.one Try.isAgg3 rfl)) rfl ?_
                    refine Mx.p rfl (Pu.move rfl) rfl ?_
                    refine Mx.p rfl (Pu.move rfl) rfl ?_
                    refine Mx.q rfl (Qt.idxM Try.runUnderlying25 Try.sizeOf35 rfl (Src.ro 1 rfl) rfl (by first | omega | (have h_ := Jb.heard_len (needs := needs) (l := l) (k := k) (q := q) (by omega); rw [← hh] at h_; first | omega | (simp only [List.length_set]; omega))) (by first | omega | (have h_ := Jb.heard_len (needs := needs) (l := l) (k := k) (q := q) (by omega); rw [← hh] at h_; first | omega | (simp only [List.length_set]; omega)))) rfl ?_
                    refine Mx.p rfl (Pu.fieldAddr (off' := voff lv + ((k : Int)).toNat * 2 + 1) Try.runUnderlying35 rfl Try.sizeOf3 rfl rfl rfl) rfl ?_
                    refine Mx.q rfl (Qt.ld rfl (Cel.eltM (Src.ro 1 rfl) ha) (o := (voff lv + k * 2)) (off := 1) (by omega) (Cut.one Try.isAgg3 rfl)) rfl ?_
                    refine Mx.l rfl (Lo.alloc [.int .i64 0, .int .i64 0, .int .i64 0, .int .i64 0, .int .i64 0, .int .i64 0, .int .i64 0, .int .i64 0, Value.slice none 0 0] (by exact Try.zeroValue28) rfl) rfl ?_
                    rintro _ _ ⟨g63, rfl, rfl⟩
                    refine MxK.go [2] [0] [var g20 [.int .i64 x0, .int .i64 x1, .int .i64 x2, .int .i64 x3, .int .i64 x4, .int .i64 x5, .int .i64 x6, .int .i64 2, V] 28] (by decide) rfl (by decide) rfl ?_
                    refine Mx.l rfl (Lo.call [.agg #[.int .i64 x0, .int .i64 x1, .int .i64 x2, .int .i64 x3, .int .i64 x4, .int .i64 x5, .int .i64 x6, .int .i64 2, V], .int .i64 c_, .int .i64 1] (by exact Try.call14) rfl (jb_Heard x0 x1 x2 x3 x4 x5 x6 V R c_ (by first | omega | (rw [hR]; have h_ := Jb.rem_len (needs := needs) (l := l) (k := k); omega)) (of_decide_eq_true h50) (by rw [hR]; exact Jb.rem_up) (of_decide_eq_false h54)) [] [0, 1, 2, 3, 4] (by decide) rfl [var g63 [.int .i64 0, .int .i64 0, .int .i64 0, .int .i64 0, .int .i64 0, .int .i64 0, .int .i64 0, .int .i64 0, Value.slice none 0 0] 28, var g1 [.int .i64 x0, .int .i64 x1, .int .i64 x2, .int .i64 x3, .int .i64 x4, .int .i64 x5, .int .i64 x6] 23, var g20 [.int .i64 x0, .int .i64 x1, .int .i64 x2, .int .i64 x3, .int .i64 x4, .int .i64 x5, .int .i64 x6, .int .i64 2, V] 28, row V22 4 1 (hs2.map encBo), row V 3 1 (R.map encZ)] rfl (RoOk.of 4 rfl row_rd [] (by decide) rfl RoOk.nil)) rfl ?_
                    rintro _ _ ⟨_, ⟨V64, rfl, rfl⟩, rfl⟩
                    refine MxK.go [3] [0] [var g20 [.int .i64 x0, .int .i64 x1, .int .i64 x2, .int .i64 x3, .int .i64 x4, .int .i64 x5, .int .i64 x6, .int .i64 2, V] 28] (by decide) rfl (by decide) rfl ?_
                    refine Mx.p rfl (Pu.move rfl) rfl ?_
                    refine Mx.p rfl (Pu.extract rfl rfl) rfl ?_
                    refine Mx.p rfl (Pu.extract rfl rfl) rfl ?_
                    refine Mx.one rfl (fun _ h => by cases h <;> rfl) (Src.row 0 rfl) (fun hV66 => ?_)
                    refine Mx.l0 rfl (Lo.store 1 (vs := [.int .i64 x0, .int .i64 x1, .int .i64 x2, .int .i64 x3, .int .i64 x4, .int .i64 x5, .int .i64 x6, .int .i64 2, V64]) [.int .i64 x0, .int .i64 x1, .int .i64 x2, .int .i64 x3, .int .i64 x4, .int .i64 x5, .int .i64 x6, .int .i64 2, V64] rfl rfl rfl (by exact Try.sizeOf28) rfl rfl (by simp only [List.all_cons, List.all_nil, Bool.and_true, hV66] <;> rfl) rfl rfl) ?_
                    rintro _ _ rfl
                    refine MxK.go [3] [0] [var g20 [.int .i64 x0, .int .i64 x1, .int .i64 x2, .int .i64 x3, .int .i64 x4, .int .i64 x5, .int .i64 x6, .int .i64 2, V] 28] (by decide) rfl (by decide) rfl ?_
                    refine Mx.p rfl (Pu.assign rfl) rfl ?_
                    refine Mx.nil ?_
                    refine J.seq ?_
                    refine J.region ?_
                    refine O.p (Pu.assign rfl) rfl ?_
                    refine O.nil ?_
                    refine J.seq ?_
                    refine J.seq ?_
                    refine J.region ?_
                    refine O.p (Pu.move rfl) rfl ?_
                    refine O.p (Pu.move rfl) rfl ?_
                    refine O.gq (t := 128) rfl rfl rfl rfl (Pu.qt (Pu.move rfl)) rfl ?_
                    refine O.gq (t := 128) rfl rfl rfl rfl (Pu.qt (Pu.move rfl)) rfl ?_
                    refine O.gq (t := 128) rfl rfl rfl rfl (Qt.idxM Try.runUnderlying25 Try.sizeOf35 rfl (Src.ro 1 rfl) rfl (by first | omega | (have h_ := Jb.heard_len (needs := needs) (l := l) (k := k) (q := q) (by omega); rw [← hh] at h_; first | omega | (simp only [List.length_set]; omega))) (by first | omega | (have h_ := Jb.heard_len (needs := needs) (l := l) (k := k) (q := q) (by omega); rw [← hh] at h_; first | omega | (simp only [List.length_set]; omega)))) rfl ?_
                    refine O.gq (t := 128) rfl rfl rfl rfl (Pu.qt (Pu.fieldAddr (off' := voff lv + ((k : Int)).toNat * 2 + 1) Try.runUnderlying35 rfl Try.sizeOf3 rfl rfl rfl)) rfl ?_
                    refine O.gq (t := 128) rfl rfl rfl rfl (Qt.ld rfl (Cel.eltM (Src.ro 1 rfl) ha) (o := (voff lv + k * 2)) (off := 1) (by omega) (Cut.one Try.isAgg3 rfl)) rfl ?_
                    refine O.gq (t := 128) rfl rfl rfl rfl (Pu.qt (Pu.neq rfl rfl)) rfl ?_
                    refine O.p (Pu.pickT rfl rfl rfl) rfl ?_
                    refine O.nil ?_
                    refine J.condF rfl rfl ?_
                    refine J.seq ?_
                    refine J.region ?_
                    refine O.p (Pu.move rfl) rfl ?_
                    refine O.p (Pu.move rfl) rfl ?_
                    refine O.gq (t := 137) rfl rfl rfl rfl (Pu.qt (Pu.move rfl)) rfl ?_
                    refine O.gq (t := 137) rfl rfl rfl rfl (Pu.qt (Pu.eql rfl rfl)) rfl ?_
                    refine O.p (Pu.pickT rfl rfl rfl) rfl ?_
                    refine O.nil ?_
                    refine J.condF rfl hz2 ?_
                    refine J.skip ?_
                    refine J.seq ?_
                    refine J.seq ?_
                    refine J.region ?_
                    refine O.p (Pu.move rfl) rfl ?_
                    refine O.p (Pu.move rfl) rfl ?_
                    refine O.p (Pu.neq rfl rfl) rfl ?_
                    refine O.p (Pu.move rfl) rfl ?_
                    refine O.gq (t := 144) rfl rfl rfl rfl (Pu.qt (Pu.move rfl)) rfl ?_
                    refine O.gq (t := 144) rfl rfl rfl rfl (Pu.qt (Pu.not rfl)) rfl ?_
                    refine O.gq (t := 144) rfl rfl rfl rfl (Pu.qt (Pu.move rfl)) rfl ?_
                    refine O.gskip (t := 147) rfl rfl (no_bool (by decide)) rfl rfl ?_
                    refine O.gskip (t := 147) rfl rfl (no_bool (by decide)) rfl rfl ?_
                    refine O.gskip (t := 147) rfl rfl (no_bool (by decide)) rfl rfl ?_
                    refine O.gskip (t := 147) rfl rfl (no_bool (by decide)) rfl rfl ?_
                    refine O.gq (t := 144) rfl rfl rfl rfl (Pu.qt (Pu.pickF rfl rfl rfl)) rfl ?_
                    refine O.p (Pu.pickF rfl rfl rfl) rfl ?_
                    refine O.nil ?_
                    refine J.condF rfl rfl ?_
                    refine J.skip ?_
                    refine J.seq ?_
                    refine J.seq ?_
                    refine J.region ?_
                    refine O.p (Pu.move rfl) rfl ?_
                    refine O.p (Pu.neq rfl rfl) rfl ?_
                    refine O.nil ?_
                    refine J.condF rfl rfl ?_
                    refine J.skip ?_
                    refine J.region ?_
                    refine O.q (Qt.ld rfl (Cel.var 1 rfl) (o := 0) (off := 0) rfl (Cut.agg [.int .i64 x0, .int .i64 x1, .int .i64 x2, .int .i64 x3, .int .i64 x4, .int .i64 x5, .int .i64 x6, .int .i64 2, V64] Try.isAgg28 Try.sizeOf28 rfl rfl)) rfl ?_
                    refine O.l0 (Lo.store 3 (vs := [.int .i64 x0, .int .i64 x1, .int .i64 x2, .int .i64 x3, .int .i64 x4, .int .i64 x5, .int .i64 x6, .int .i64 2, V64]) [.int .i64 x0, .int .i64 x1, .int .i64 x2, .int .i64 x3, .int .i64 x4, .int .i64 x5, .int .i64 x6, .int .i64 2, V64] rfl rfl rfl (by exact Try.sizeOf28) rfl rfl (by simp only [List.all_cons, List.all_nil, Bool.and_true, hV66] <;> rfl) rfl rfl) ?_
                    rintro _ _ rfl
                    refine O.nil ?_
                    refine J.blk ?_
                    refine J.region ?_
                    refine O.p (Pu.move rfl) rfl ?_
                    refine O.p (Pu.add' rfl rfl (by first | omega | (have h_ := Jb.left_le (needs := needs) (l := l) (k := k) (q := q); omega))) rfl ?_
                    refine O.p (Pu.assign rfl) rfl ?_
                    refine O.nil ?_
                    exact J.lp ⟨k + 1, V64, hs2, Jb.without R c_⟩ (show (k + 1) ≤ l.length ∧ hs2 = Jb.heardK needs l (k + 1) 0 ∧ (Jb.without R c_) = Jb.rem needs l (k + 1) ∧ (Jb.without R c_) ≠ [] from ⟨by omega, (by rw [hh, Jb.heard_all (by omega), Jb.heard_zero]), (by rw [hR, Jb.rem_next ha]), (of_decide_eq_false h54)⟩) (show l.length - (k + 1) < l.length - k from (by first | omega | (have h_ := Jb.heard_len (needs := needs) (l := l) (k := k) (q := q) (by omega); rw [← hh] at h_; first | omega | (simp only [List.length_set]; omega)))) ⟨rfl, rfl, rfl, rfl, rfl, (congrArg (fun z => some (Value.int .i64 z)) (by first | rfl | omega : ((k : Int) + 1 : Int) = ((k + 1) : Int))), trivial⟩ [2, 3, 4, 0] (by decide) rfl
                  ·
                    refine A.mix [(0, false), (1, false), (2, false), (3, false), (4, false), (5, false), (6, false), (7, false), (8, false), (9, false), (10, false), (11, true), (12, false), (13, false), (14, false), (15, true), (16, true), (17, false)] [1] [var g20 [.int .i64 x0, .int .i64 x1, .int .i64 x2, .int .i64 x3, .int .i64 x4, .int .i64 x5, .int .i64 x6, .int .i64 2, V] 28] (by kernel_rfl) (by decide) rfl ?_
                    refine Mx.q rfl (Qt.ld rfl (Cel.var 0 rfl) (o := 0) (off := 0) rfl (Cut.agg [.int .i64 x0, .int .i64 x1, .int .i64 x2, .int .i64 x3, .int .i64 x4, .int .i64 x5, .int .i64 x6, .int .i64 2, V] Try.isAgg28 Try.sizeOf28 rfl rfl)) rfl ?_
                    refine Mx.p rfl (Pu.move rfl) rfl ?_
                    refine Mx.p rfl (Pu.move rfl) rfl ?_
                    refine Mx.q rfl (Qt.idxM Try.runUnderlying25 Try.sizeOf35 rfl (Src.ro 1 rfl) rfl (by first | omega | (have h_ := Jb.heard_len (needs := needs) (l := l) (k := k) (q := q) (by omega); rw [← hh] at h_; first | omega | (simp only [List.length_set]; omega))) (by first | omega | (have h_ := Jb.heard_len (needs := needs) (l := l) (k := k) (q := q) (by omega); rw [← hh] at h_; first | omega | (simp only [List.length_set]; omega)))) rfl ?_
                    refine Mx.p rfl (Pu.fieldAddr (off' := voff lv + ((k : Int)).toNat * 2 + 0) Try.runUnderlying35 rfl Try.sizeOf3 rfl rfl rfl) rfl ?_
                    refine Mx.q rfl (Qt.ld rfl (Cel.eltM (Src.ro 1 rfl) ha) (o := (voff lv + k * 2)) (off := 0) (by omega) (Cut.one Try.isAgg3 rfl)) rfl ?_
                    refine Mx.p rfl (Pu.move rfl) rfl ?_
                    refine Mx.p rfl (Pu.move rfl) rfl ?_
                    refine Mx.q rfl (Qt.idxM Try.runUnderlying25 Try.sizeOf35 rfl (Src.ro 1 rfl) rfl (by first | omega | (have h_ := Jb.heard_len (needs := needs) (l := l) (k := k) (q := q) (by omega); rw [← hh] at h_; first | omega | (simp only [List.length_set]; omega))) (by first | omega | (have h_ := Jb.heard_len (needs := needs) (l := l) (k := k) (q := q) (by omega); rw [← hh] at h_; first | omega | (simp only [List.length_set]; omega)))) rfl ?_
                    refine Mx.p rfl (Pu.fieldAddr (off' := voff lv + ((k : Int)).toNat * 2 + 1) Try.runUnderlying35 rfl Try.sizeOf3 rfl rfl rfl) rfl ?_
                    refine Mx.q rfl (Qt.ld rfl (Cel.eltM (Src.ro 1 rfl) ha) (o := (voff lv + k * 2)) (off := 1) (by omega) (Cut.one Try.isAgg3 rfl)) rfl ?_
                    refine Mx.l rfl (Lo.call [.agg #[.int .i64 x0, .int .i64 x1, .int .i64 x2, .int .i64 x3, .int .i64 x4, .int .i64 x5, .int .i64 x6, .int .i64 2, V], .int .i64 c_, .int .i64 1] (by exact Try.call14) rfl (jb_Heard x0 x1 x2 x3 x4 x5 x6 V R c_ (by first | omega | (rw [hR]; have h_ := Jb.rem_len (needs := needs) (l := l) (k := k); omega)) (of_decide_eq_true h50) (by rw [hR]; exact Jb.rem_up) (of_decide_eq_false h54)) [] [0, 1, 2, 3] (by decide) rfl [var g1 [.int .i64 x0, .int .i64 x1, .int .i64 x2, .int .i64 x3, .int .i64 x4, .int .i64 x5, .int .i64 x6] 23, var g20 [.int .i64 x0, .int .i64 x1, .int .i64 x2, .int .i64 x3, .int .i64 x4, .int .i64 x5, .int .i64 x6, .int .i64 2, V] 28, row V22 4 1 (hs2.map encBo), row V 3 1 (R.map encZ)] rfl (RoOk.of 3 rfl row_rd [] (by decide) rfl RoOk.nil)) rfl ?_
                    rintro _ _ ⟨_, ⟨V67, rfl, rfl⟩, rfl⟩
                    refine MxK.go [2] [0] [var g20 [.int .i64 x0, .int .i64 x1, .int .i64 x2, .int .i64 x3, .int .i64 x4, .int .i64 x5, .int .i64 x6, .int .i64 2, V] 28] (by decide) rfl (by decide) rfl ?_
                    refine Mx.p rfl (Pu.move rfl) rfl ?_
                    refine Mx.p rfl (Pu.extract rfl rfl) rfl ?_
                    refine Mx.p rfl (Pu.extract rfl rfl) rfl ?_
                    refine Mx.l rfl (Lo.alloc [.int .i64 0, .int .i64 0, .int .i64 0, .int .i64 0, .int .i64 0, .int .i64 0, .int .i64 0, .int .i64 0, Value.slice none 0 0] (by exact Try.zeroValue28) rfl) rfl ?_
                    rintro _ _ ⟨g69, rfl, rfl⟩
                    refine MxK.go [3] [0] [var g20 [.int .i64 x0, .int .i64 x1, .int .i64 x2, .int .i64 x3, .int .i64 x4, .int .i64 x5, .int .i64 x6, .int .i64 2, V] 28] (by decide) rfl (by decide) rfl ?_
                    refine Mx.one rfl (fun _ h => by cases h <;> rfl) (Src.row 1 rfl) (fun hV70 => ?_)
                    refine Mx.l0 rfl (Lo.store 0 (vs := [.int .i64 x0, .int .i64 x1, .int .i64 x2, .int .i64 x3, .int .i64 x4, .int .i64 x5, .int .i64 x6, .int .i64 2, V67]) [.int .i64 x0, .int .i64 x1, .int .i64 x2, .int .i64 x3, .int .i64 x4, .int .i64 x5, .int .i64 x6, .int .i64 2, V67] rfl rfl rfl (by exact Try.sizeOf28) rfl rfl (by simp only [List.all_cons, List.all_nil, Bool.and_true, hV70] <;> rfl) rfl rfl) ?_
                    rintro _ _ rfl
                    refine MxK.go [3] [0] [var g20 [.int .i64 x0, .int .i64 x1, .int .i64 x2, .int .i64 x3, .int .i64 x4, .int .i64 x5, .int .i64 x6, .int .i64 2, V] 28] (by decide) rfl (by decide) rfl ?_
                    refine Mx.p rfl (Pu.assign rfl) rfl ?_
                    refine Mx.nil ?_
                    refine J.seq ?_
                    refine J.region ?_
                    refine O.p (Pu.assign rfl) rfl ?_
                    refine O.nil ?_
                    refine J.seq ?_
                    refine J.seq ?_
                    refine J.region ?_
                    refine O.p (Pu.move rfl) rfl ?_
                    refine O.p (Pu.move rfl) rfl ?_
                    refine O.gq (t := 128) rfl rfl rfl rfl (Pu.qt (Pu.move rfl)) rfl ?_
                    refine O.gq (t := 128) rfl rfl rfl rfl (Pu.qt (Pu.move rfl)) rfl ?_
                    refine O.gq (t := 128) rfl rfl rfl rfl (Qt.idxM Try.runUnderlying25 Try.sizeOf35 rfl (Src.ro 1 rfl) rfl (by first | omega | (have h_ := Jb.heard_len (needs := needs) (l := l) (k := k) (q := q) (by omega); rw [← hh] at h_; first | omega | (simp only [List.length_set]; omega))) (by first | omega | (have h_ := Jb.heard_len (needs := needs) (l := l) (k := k) (q := q) (by omega); rw [← hh] at h_; first | omega | (simp only [List.length_set]; omega)))) rfl ?_
                    refine O.gq (t := 128) rfl rfl rfl rfl (Pu.qt (Pu.fieldAddr (off' := voff lv + ((k : Int)).toNat * 2 + 1) Try.runUnderlying35 rfl Try.sizeOf3 rfl rfl rfl)) rfl ?_
                    refine O.gq (t := 128) rfl rfl rfl rfl (Qt.ld rfl (Cel.eltM (Src.ro 1 rfl) ha) (o := (voff lv + k * 2)) (off := 1) (by omega) (Cut.one Try.isAgg3 rfl)) rfl ?_
                    refine O.gq (t := 128) rfl rfl rfl rfl (Pu.qt (Pu.neq rfl rfl)) rfl ?_
                    refine O.p (Pu.pickT rfl rfl rfl) rfl ?_
                    refine O.nil ?_
                    refine J.condF rfl rfl ?_
                    refine J.seq ?_
                    refine J.region ?_
                    refine O.p (Pu.move rfl) rfl ?_
                    refine O.p (Pu.move rfl) rfl ?_
                    refine O.gq (t := 137) rfl rfl rfl rfl (Pu.qt (Pu.move rfl)) rfl ?_
                    refine O.gq (t := 137) rfl rfl rfl rfl (Pu.qt (Pu.eql rfl rfl)) rfl ?_
                    refine O.p (Pu.pickT rfl rfl rfl) rfl ?_
                    refine O.nil ?_
                    refine J.condF rfl hz2 ?_
                    refine J.skip ?_
                    refine J.seq ?_
                    refine J.seq ?_
                    refine J.region ?_
                    refine O.p (Pu.move rfl) rfl ?_
                    refine O.p (Pu.move rfl) rfl ?_
                    refine O.p (Pu.neq rfl rfl) rfl ?_
                    refine O.p (Pu.move rfl) rfl ?_
                    refine O.gq (t := 144) rfl rfl rfl rfl (Pu.qt (Pu.move rfl)) rfl ?_
                    refine O.gq (t := 144) rfl rfl rfl rfl (Pu.qt (Pu.not rfl)) rfl ?_
                    refine O.gq (t := 144) rfl rfl rfl rfl (Pu.qt (Pu.move rfl)) rfl ?_
                    refine O.gskip (t := 147) rfl rfl (no_bool (by decide)) rfl rfl ?_
                    refine O.gskip (t := 147) rfl rfl (no_bool (by decide)) rfl rfl ?_
                    refine O.gskip (t := 147) rfl rfl (no_bool (by decide)) rfl rfl ?_
                    refine O.gskip (t := 147) rfl rfl (no_bool (by decide)) rfl rfl ?_
                    refine O.gq (t := 144) rfl rfl rfl rfl (Pu.qt (Pu.pickF rfl rfl rfl)) rfl ?_
                    refine O.p (Pu.pickF rfl rfl rfl) rfl ?_
                    refine O.nil ?_
                    refine J.condF rfl rfl ?_
                    refine J.skip ?_
                    refine J.seq ?_
                    refine J.seq ?_
                    refine J.region ?_
                    refine O.p (Pu.move rfl) rfl ?_
                    refine O.p (Pu.neq rfl rfl) rfl ?_
                    refine O.nil ?_
                    refine J.condF rfl rfl ?_
                    refine J.skip ?_
                    refine J.region ?_
                    refine O.q (Qt.ld rfl (Cel.var 0 rfl) (o := 0) (off := 0) rfl (Cut.agg [.int .i64 x0, .int .i64 x1, .int .i64 x2, .int .i64 x3, .int .i64 x4, .int .i64 x5, .int .i64 x6, .int .i64 2, V67] Try.isAgg28 Try.sizeOf28 rfl rfl)) rfl ?_
                    refine O.l0 (Lo.store 3 (vs := [.int .i64 x0, .int .i64 x1, .int .i64 x2, .int .i64 x3, .int .i64 x4, .int .i64 x5, .int .i64 x6, .int .i64 2, V67]) [.int .i64 x0, .int .i64 x1, .int .i64 x2, .int .i64 x3, .int .i64 x4, .int .i64 x5, .int .i64 x6, .int .i64 2, V67] rfl rfl rfl (by exact Try.sizeOf28) rfl rfl (by simp only [List.all_cons, List.all_nil, Bool.and_true, hV70] <;> rfl) rfl rfl) ?_
                    rintro _ _ rfl
                    refine O.nil ?_
                    refine J.blk ?_
                    refine J.region ?_
                    refine O.p (Pu.move rfl) rfl ?_
                    refine O.p (Pu.add' rfl rfl (by first | omega | (have h_ := Jb.left_le (needs := needs) (l := l) (k := k) (q := q); omega))) rfl ?_
                    refine O.p (Pu.assign rfl) rfl ?_
                    refine O.nil ?_
                    exact J.lp ⟨k + 1, V67, hs2, Jb.without R c_⟩ (show (k + 1) ≤ l.length ∧ hs2 = Jb.heardK needs l (k + 1) 0 ∧ (Jb.without R c_) = Jb.rem needs l (k + 1) ∧ (Jb.without R c_) ≠ [] from ⟨by omega, (by rw [hh, Jb.heard_all (by omega), Jb.heard_zero]), (by rw [hR, Jb.rem_next ha]), (of_decide_eq_false h54)⟩) (show l.length - (k + 1) < l.length - k from (by first | omega | (have h_ := Jb.heard_len (needs := needs) (l := l) (k := k) (q := q) (by omega); rw [← hh] at h_; first | omega | (simp only [List.length_set]; omega)))) ⟨rfl, rfl, rfl, rfl, rfl, (congrArg (fun z => some (Value.int .i64 z)) (by first | rfl | omega : ((k : Int) + 1 : Int) = ((k + 1) : Int))), trivial⟩ [2, 3, 4, 1] (by decide) rfl
              ·
                have p71 := of_decide_eq_false h52
                refine J.drawA Try.mixed ?_
                refine A.edge 11 15 rfl ?_ ?_
                ·
                  refine A.mix [(0, false), (1, false), (2, false), (3, false), (4, false), (5, false), (6, false), (7, false), (8, false), (9, false), (10, false), (15, true), (11, true), (12, false), (13, false), (14, false), (16, true), (17, false)] [1] [var g20 [.int .i64 x0, .int .i64 x1, .int .i64 x2, .int .i64 x3, .int .i64 x4, .int .i64 x5, .int .i64 x6, .int .i64 2, V] 28] (by kernel_rfl) (by decide) rfl ?_
                  refine Mx.q rfl (Qt.ld rfl (Cel.var 0 rfl) (o := 0) (off := 0) rfl (Cut.agg [.int .i64 x0, .int .i64 x1, .int .i64 x2, .int .i64 x3, .int .i64 x4, .int .i64 x5, .int .i64 x6, .int .i64 2, V] Try.isAgg28 Try.sizeOf28 rfl rfl)) rfl ?_
                  refine Mx.p rfl (Pu.move rfl) rfl ?_
                  refine Mx.p rfl (Pu.move rfl) rfl ?_
                  refine Mx.q rfl (Qt.idxM Try.runUnderlying25 Try.sizeOf35 rfl (Src.ro 1 rfl) rfl (by first | omega | (have h_ := Jb.heard_len (needs := needs) (l := l) (k := k) (q := q) (by omega); rw [← hh] at h_; first | omega | (simp only [List.length_set]; omega))) (by first | omega | (have h_ := Jb.heard_len (needs := needs) (l := l) (k := k) (q := q) (by omega); rw [← hh] at h_; first | omega | (simp only [List.length_set]; omega)))) rfl ?_
                  refine Mx.p rfl (Pu.fieldAddr (off' := voff lv + ((k : Int)).toNat * 2 + 0) Try.runUnderlying35 rfl Try.sizeOf3 rfl rfl rfl) rfl ?_
                  refine Mx.q rfl (Qt.ld rfl (Cel.eltM (Src.ro 1 rfl) ha) (o := (voff lv + k * 2)) (off := 0) (by omega) (Cut.one Try.isAgg3 rfl)) rfl ?_
                  refine Mx.p rfl (Pu.move rfl) rfl ?_
                  refine Mx.p rfl (Pu.move rfl) rfl ?_
                  refine Mx.q rfl (Qt.idxM Try.runUnderlying25 Try.sizeOf35 rfl (Src.ro 1 rfl) rfl (by first | omega | (have h_ := Jb.heard_len (needs := needs) (l := l) (k := k) (q := q) (by omega); rw [← hh] at h_; first | omega | (simp only [List.length_set]; omega))) (by first | omega | (have h_ := Jb.heard_len (needs := needs) (l := l) (k := k) (q := q) (by omega); rw [← hh] at h_; first | omega | (simp only [List.length_set]; omega)))) rfl ?_
                  refine Mx.p rfl (Pu.fieldAddr (off' := voff lv + ((k : Int)).toNat * 2 + 1) Try.runUnderlying35 rfl Try.sizeOf3 rfl rfl rfl) rfl ?_
                  refine Mx.q rfl (Qt.ld rfl (Cel.eltM (Src.ro 1 rfl) ha) (o := (voff lv + k * 2)) (off := 1) (by omega) (Cut.one Try.isAgg3 rfl)) rfl ?_
                  refine Mx.l rfl (Lo.alloc [.int .i64 0, .int .i64 0, .int .i64 0, .int .i64 0, .int .i64 0, .int .i64 0, .int .i64 0, .int .i64 0, Value.slice none 0 0] (by exact Try.zeroValue28) rfl) rfl ?_
                  rintro _ _ ⟨g72, rfl, rfl⟩
                  refine MxK.go [2] [0] [var g20 [.int .i64 x0, .int .i64 x1, .int .i64 x2, .int .i64 x3, .int .i64 x4, .int .i64 x5, .int .i64 x6, .int .i64 2, V] 28] (by decide) rfl (by decide) rfl ?_
                  refine Mx.l rfl (Lo.call [.agg #[.int .i64 x0, .int .i64 x1, .int .i64 x2, .int .i64 x3, .int .i64 x4, .int .i64 x5, .int .i64 x6, .int .i64 2, V], .int .i64 c_, .int .i64 d_] (by exact Try.call14) rfl (jb_HeardBad x0 x1 x2 x3 x4 x5 x6 V R c_ d_ (by first | omega | (rw [hR]; have h_ := Jb.rem_len (needs := needs) (l := l) (k := k); omega)) (of_decide_eq_true h50) (of_decide_eq_false h52)) [] [0, 1, 2, 3, 4] (by decide) rfl [var g72 [.int .i64 0, .int .i64 0, .int .i64 0, .int .i64 0, .int .i64 0, .int .i64 0, .int .i64 0, .int .i64 0, Value.slice none 0 0] 28, var g1 [.int .i64 x0, .int .i64 x1, .int .i64 x2, .int .i64 x3, .int .i64 x4, .int .i64 x5, .int .i64 x6] 23, var g20 [.int .i64 x0, .int .i64 x1, .int .i64 x2, .int .i64 x3, .int .i64 x4, .int .i64 x5, .int .i64 x6, .int .i64 2, V] 28, row V22 4 1 (hs2.map encBo), row V 3 1 (R.map encZ)] rfl (RoOk.of 4 rfl row_rd [] (by decide) rfl RoOk.nil)) rfl ?_
                  rintro _ _ ⟨_, ⟨rfl, rfl⟩, rfl⟩
                  refine MxK.go [2] [0] [var g20 [.int .i64 x0, .int .i64 x1, .int .i64 x2, .int .i64 x3, .int .i64 x4, .int .i64 x5, .int .i64 x6, .int .i64 2, V] 28] (by decide) rfl (by decide) rfl ?_
                  refine Mx.p rfl (Pu.move rfl) rfl ?_
                  refine Mx.p rfl (Pu.extract rfl rfl) rfl ?_
                  refine Mx.p rfl (Pu.extract rfl rfl) rfl ?_
                  refine Mx.l0 rfl (Lo.store 0 (vs := [.int .i64 0, .int .i64 0, .int .i64 0, .int .i64 0, .int .i64 0, .int .i64 0, .int .i64 0, .int .i64 0, Value.slice none 0 0]) [.int .i64 0, .int .i64 0, .int .i64 0, .int .i64 0, .int .i64 0, .int .i64 0, .int .i64 0, .int .i64 0, Value.slice none 0 0] rfl rfl rfl (by exact Try.sizeOf28) rfl rfl rfl rfl rfl) ?_
                  rintro _ _ rfl
                  refine MxK.go [2] [0] [var g20 [.int .i64 x0, .int .i64 x1, .int .i64 x2, .int .i64 x3, .int .i64 x4, .int .i64 x5, .int .i64 x6, .int .i64 2, V] 28] (by decide) rfl (by decide) rfl ?_
                  refine Mx.p rfl (Pu.assign rfl) rfl ?_
                  refine Mx.nil ?_
                  refine J.seq ?_
                  refine J.region ?_
                  refine O.p (Pu.assign rfl) rfl ?_
                  refine O.nil ?_
                  refine J.seq ?_
                  refine J.seq ?_
                  refine J.region ?_
                  refine O.p (Pu.move rfl) rfl ?_
                  refine O.p (Pu.move rfl) rfl ?_
                  refine O.gq (t := 128) rfl rfl rfl rfl (Pu.qt (Pu.move rfl)) rfl ?_
                  refine O.gq (t := 128) rfl rfl rfl rfl (Pu.qt (Pu.move rfl)) rfl ?_
                  refine O.gq (t := 128) rfl rfl rfl rfl (Qt.idxM Try.runUnderlying25 Try.sizeOf35 rfl (Src.ro 1 rfl) rfl (by first | omega | (have h_ := Jb.heard_len (needs := needs) (l := l) (k := k) (q := q) (by omega); rw [← hh] at h_; first | omega | (simp only [List.length_set]; omega))) (by first | omega | (have h_ := Jb.heard_len (needs := needs) (l := l) (k := k) (q := q) (by omega); rw [← hh] at h_; first | omega | (simp only [List.length_set]; omega)))) rfl ?_
                  refine O.gq (t := 128) rfl rfl rfl rfl (Pu.qt (Pu.fieldAddr (off' := voff lv + ((k : Int)).toNat * 2 + 1) Try.runUnderlying35 rfl Try.sizeOf3 rfl rfl rfl)) rfl ?_
                  refine O.gq (t := 128) rfl rfl rfl rfl (Qt.ld rfl (Cel.eltM (Src.ro 1 rfl) ha) (o := (voff lv + k * 2)) (off := 1) (by omega) (Cut.one Try.isAgg3 rfl)) rfl ?_
                  refine O.gq (t := 128) rfl rfl rfl rfl (Pu.qt (Pu.neq rfl rfl)) rfl ?_
                  refine O.p (Pu.pickT rfl rfl rfl) rfl ?_
                  refine O.nil ?_
                  refine J.condT rfl (decide_eq_true (of_decide_eq_false h52)) ?_
                  refine J.region ?_
                  refine O.p (Pu.assign rfl) rfl ?_
                  refine O.nil ?_
                  refine J.seq ?_
                  refine J.seq ?_
                  refine J.region ?_
                  refine O.p (Pu.move rfl) rfl ?_
                  refine O.p (Pu.move rfl) rfl ?_
                  refine O.p (Pu.neq rfl rfl) rfl ?_
                  refine O.p (Pu.move rfl) rfl ?_
                  refine O.gq (t := 144) rfl rfl rfl rfl (Pu.qt (Pu.move rfl)) rfl ?_
                  refine O.gq (t := 144) rfl rfl rfl rfl (Pu.qt (Pu.not rfl)) rfl ?_
                  refine O.gq (t := 144) rfl rfl rfl rfl (Pu.qt (Pu.move rfl)) rfl ?_
                  refine O.gskip (t := 147) rfl rfl (no_bool (by decide)) rfl rfl ?_
                  refine O.gskip (t := 147) rfl rfl (no_bool (by decide)) rfl rfl ?_
                  refine O.gskip (t := 147) rfl rfl (no_bool (by decide)) rfl rfl ?_
                  refine O.gskip (t := 147) rfl rfl (no_bool (by decide)) rfl rfl ?_
                  refine O.gq (t := 144) rfl rfl rfl rfl (Pu.qt (Pu.pickF rfl rfl rfl)) rfl ?_
                  refine O.p (Pu.pickF rfl rfl rfl) rfl ?_
                  refine O.nil ?_
                  refine J.condF rfl rfl ?_
                  refine J.skip ?_
                  refine J.seq ?_
                  refine J.seq ?_
                  refine J.region ?_
                  refine O.p (Pu.move rfl) rfl ?_
                  refine O.p (Pu.neq rfl rfl) rfl ?_
                  refine O.nil ?_
                  refine J.condT rfl rfl ?_
                  refine J.seq ?_
                  refine J.region ?_
                  refine O.l (Lo.call [] (by exact Try.call11) rfl law32_awake [] [0, 1, 2, 3, 4] (by decide) rfl [var g72 [.int .i64 0, .int .i64 0, .int .i64 0, .int .i64 0, .int .i64 0, .int .i64 0, .int .i64 0, .int .i64 0, Value.slice none 0 0] 28, var g1 [.int .i64 x0, .int .i64 x1, .int .i64 x2, .int .i64 x3, .int .i64 x4, .int .i64 x5, .int .i64 x6] 23, var g20 [.int .i64 x0, .int .i64 x1, .int .i64 x2, .int .i64 x3, .int .i64 x4, .int .i64 x5, .int .i64 x6, .int .i64 2, V] 28, row V22 4 1 (hs2.map encBo), row V 3 1 (R.map encZ)] rfl RoOk.nil) rfl ?_
                  rintro _ _ ⟨_, ⟨rfl, rfl⟩, rfl⟩
                  refine O.p (Pu.assign rfl) rfl ?_
                  refine O.nil ?_
                  exact J.ret (Fin.ret (rs := [.tmp 6]) rfl [_] ⟨rfl, trivial⟩ [] (by decide) [] rfl ⟨rfl, rfl⟩)
                ·
                  refine A.mix [(0, false), (1, false), (2, false), (3, false), (4, false), (5, false), (6, false), (7, false), (8, false), (9, false), (10, false), (11, true), (12, false), (13, false), (14, false), (15, true), (16, true), (17, false)] [1] [var g20 [.int .i64 x0, .int .i64 x1, .int .i64 x2, .int .i64 x3, .int .i64 x4, .int .i64 x5, .int .i64 x6, .int .i64 2, V] 28] (by kernel_rfl) (by decide) rfl ?_
                  refine Mx.q rfl (Qt.ld rfl (Cel.var 0 rfl) (o := 0) (off := 0) rfl (Cut.agg [.int .i64 x0, .int .i64 x1, .int .i64 x2, .int .i64 x3, .int .i64 x4, .int .i64 x5, .int .i64 x6, .int .i64 2, V] Try.isAgg28 Try.sizeOf28 rfl rfl)) rfl ?_
                  refine Mx.p rfl (Pu.move rfl) rfl ?_
                  refine Mx.p rfl (Pu.move rfl) rfl ?_
                  refine Mx.q rfl (Qt.idxM Try.runUnderlying25 Try.sizeOf35 rfl (Src.ro 1 rfl) rfl (by first | omega | (have h_ := Jb.heard_len (needs := needs) (l := l) (k := k) (q := q) (by omega); rw [← hh] at h_; first | omega | (simp only [List.length_set]; omega))) (by first | omega | (have h_ := Jb.heard_len (needs := needs) (l := l) (k := k) (q := q) (by omega); rw [← hh] at h_; first | omega | (simp only [List.length_set]; omega)))) rfl ?_
                  refine Mx.p rfl (Pu.fieldAddr (off' := voff lv + ((k : Int)).toNat * 2 + 0) Try.runUnderlying35 rfl Try.sizeOf3 rfl rfl rfl) rfl ?_
                  refine Mx.q rfl (Qt.ld rfl (Cel.eltM (Src.ro 1 rfl) ha) (o := (voff lv + k * 2)) (off := 0) (by omega) (Cut.one Try.isAgg3 rfl)) rfl ?_
                  refine Mx.p rfl (Pu.move rfl) rfl ?_
                  refine Mx.p rfl (Pu.move rfl) rfl ?_
                  refine Mx.q rfl (Qt.idxM Try.runUnderlying25 Try.sizeOf35 rfl (Src.ro 1 rfl) rfl (by first | omega | (have h_ := Jb.heard_len (needs := needs) (l := l) (k := k) (q := q) (by omega); rw [← hh] at h_; first | omega | (simp only [List.length_set]; omega))) (by first | omega | (have h_ := Jb.heard_len (needs := needs) (l := l) (k := k) (q := q) (by omega); rw [← hh] at h_; first | omega | (simp only [List.length_set]; omega)))) rfl ?_
                  refine Mx.p rfl (Pu.fieldAddr (off' := voff lv + ((k : Int)).toNat * 2 + 1) Try.runUnderlying35 rfl Try.sizeOf3 rfl rfl rfl) rfl ?_
                  refine Mx.q rfl (Qt.ld rfl (Cel.eltM (Src.ro 1 rfl) ha) (o := (voff lv + k * 2)) (off := 1) (by omega) (Cut.one Try.isAgg3 rfl)) rfl ?_
                  refine Mx.l rfl (Lo.call [.agg #[.int .i64 x0, .int .i64 x1, .int .i64 x2, .int .i64 x3, .int .i64 x4, .int .i64 x5, .int .i64 x6, .int .i64 2, V], .int .i64 c_, .int .i64 d_] (by exact Try.call14) rfl (jb_HeardBad x0 x1 x2 x3 x4 x5 x6 V R c_ d_ (by first | omega | (rw [hR]; have h_ := Jb.rem_len (needs := needs) (l := l) (k := k); omega)) (of_decide_eq_true h50) (of_decide_eq_false h52)) [] [0, 1, 2, 3] (by decide) rfl [var g1 [.int .i64 x0, .int .i64 x1, .int .i64 x2, .int .i64 x3, .int .i64 x4, .int .i64 x5, .int .i64 x6] 23, var g20 [.int .i64 x0, .int .i64 x1, .int .i64 x2, .int .i64 x3, .int .i64 x4, .int .i64 x5, .int .i64 x6, .int .i64 2, V] 28, row V22 4 1 (hs2.map encBo), row V 3 1 (R.map encZ)] rfl (RoOk.of 3 rfl row_rd [] (by decide) rfl RoOk.nil)) rfl ?_
                  rintro _ _ ⟨_, ⟨rfl, rfl⟩, rfl⟩
                  refine MxK.go [1] [0] [var g20 [.int .i64 x0, .int .i64 x1, .int .i64 x2, .int .i64 x3, .int .i64 x4, .int .i64 x5, .int .i64 x6, .int .i64 2, V] 28] (by decide) rfl (by decide) rfl ?_
                  refine Mx.p rfl (Pu.move rfl) rfl ?_
                  refine Mx.p rfl (Pu.extract rfl rfl) rfl ?_
                  refine Mx.p rfl (Pu.extract rfl rfl) rfl ?_
                  refine Mx.l rfl (Lo.alloc [.int .i64 0, .int .i64 0, .int .i64 0, .int .i64 0, .int .i64 0, .int .i64 0, .int .i64 0, .int .i64 0, Value.slice none 0 0] (by exact Try.zeroValue28) rfl) rfl ?_
                  rintro _ _ ⟨g76, rfl, rfl⟩
                  refine MxK.go [2] [0] [var g20 [.int .i64 x0, .int .i64 x1, .int .i64 x2, .int .i64 x3, .int .i64 x4, .int .i64 x5, .int .i64 x6, .int .i64 2, V] 28] (by decide) rfl (by decide) rfl ?_
                  refine Mx.l0 rfl (Lo.store 0 (vs := [.int .i64 0, .int .i64 0, .int .i64 0, .int .i64 0, .int .i64 0, .int .i64 0, .int .i64 0, .int .i64 0, Value.slice none 0 0]) [.int .i64 0, .int .i64 0, .int .i64 0, .int .i64 0, .int .i64 0, .int .i64 0, .int .i64 0, .int .i64 0, Value.slice none 0 0] rfl rfl rfl (by exact Try.sizeOf28) rfl rfl rfl rfl rfl) ?_
                  rintro _ _ rfl
                  refine MxK.go [2] [0] [var g20 [.int .i64 x0, .int .i64 x1, .int .i64 x2, .int .i64 x3, .int .i64 x4, .int .i64 x5, .int .i64 x6, .int .i64 2, V] 28] (by decide) rfl (by decide) rfl ?_
                  refine Mx.p rfl (Pu.assign rfl) rfl ?_
                  refine Mx.nil ?_
                  refine J.seq ?_
                  refine J.region ?_
                  refine O.p (Pu.assign rfl) rfl ?_
                  refine O.nil ?_
                  refine J.seq ?_
                  refine J.seq ?_
                  refine J.region ?_
                  refine O.p (Pu.move rfl) rfl ?_
                  refine O.p (Pu.move rfl) rfl ?_
                  refine O.gq (t := 128) rfl rfl rfl rfl (Pu.qt (Pu.move rfl)) rfl ?_
                  refine O.gq (t := 128) rfl rfl rfl rfl (Pu.qt (Pu.move rfl)) rfl ?_
                  refine O.gq (t := 128) rfl rfl rfl rfl (Qt.idxM Try.runUnderlying25 Try.sizeOf35 rfl (Src.ro 1 rfl) rfl (by first | omega | (have h_ := Jb.heard_len (needs := needs) (l := l) (k := k) (q := q) (by omega); rw [← hh] at h_; first | omega | (simp only [List.length_set]; omega))) (by first | omega | (have h_ := Jb.heard_len (needs := needs) (l := l) (k := k) (q := q) (by omega); rw [← hh] at h_; first | omega | (simp only [List.length_set]; omega)))) rfl ?_
                  refine O.gq (t := 128) rfl rfl rfl rfl (Pu.qt (Pu.fieldAddr (off' := voff lv + ((k : Int)).toNat * 2 + 1) Try.runUnderlying35 rfl Try.sizeOf3 rfl rfl rfl)) rfl ?_
                  refine O.gq (t := 128) rfl rfl rfl rfl (Qt.ld rfl (Cel.eltM (Src.ro 1 rfl) ha) (o := (voff lv + k * 2)) (off := 1) (by omega) (Cut.one Try.isAgg3 rfl)) rfl ?_
                  refine O.gq (t := 128) rfl rfl rfl rfl (Pu.qt (Pu.neq rfl rfl)) rfl ?_
                  refine O.p (Pu.pickT rfl rfl rfl) rfl ?_
                  refine O.nil ?_
                  refine J.condT rfl (decide_eq_true (of_decide_eq_false h52)) ?_
                  refine J.region ?_
                  refine O.p (Pu.assign rfl) rfl ?_
                  refine O.nil ?_
                  refine J.seq ?_
                  refine J.seq ?_
                  refine J.region ?_
                  refine O.p (Pu.move rfl) rfl ?_
                  refine O.p (Pu.move rfl) rfl ?_
                  refine O.p (Pu.neq rfl rfl) rfl ?_
                  refine O.p (Pu.move rfl) rfl ?_
                  refine O.gq (t := 144) rfl rfl rfl rfl (Pu.qt (Pu.move rfl)) rfl ?_
                  refine O.gq (t := 144) rfl rfl rfl rfl (Pu.qt (Pu.not rfl)) rfl ?_
                  refine O.gq (t := 144) rfl rfl rfl rfl (Pu.qt (Pu.move rfl)) rfl ?_
                  refine O.gskip (t := 147) rfl rfl (no_bool (by decide)) rfl rfl ?_
                  refine O.gskip (t := 147) rfl rfl (no_bool (by decide)) rfl rfl ?_
                  refine O.gskip (t := 147) rfl rfl (no_bool (by decide)) rfl rfl ?_
                  refine O.gskip (t := 147) rfl rfl (no_bool (by decide)) rfl rfl ?_
                  refine O.gq (t := 144) rfl rfl rfl rfl (Pu.qt (Pu.pickF rfl rfl rfl)) rfl ?_
                  refine O.p (Pu.pickF rfl rfl rfl) rfl ?_
                  refine O.nil ?_
                  refine J.condF rfl rfl ?_
                  refine J.skip ?_
                  refine J.seq ?_
                  refine J.seq ?_
                  refine J.region ?_
                  refine O.p (Pu.move rfl) rfl ?_
                  refine O.p (Pu.neq rfl rfl) rfl ?_
                  refine O.nil ?_
                  refine J.condT rfl rfl ?_
                  refine J.seq ?_
                  refine J.region ?_
                  refine O.l (Lo.call [] (by exact Try.call11) rfl law32_awake [] [0, 1, 2, 3, 4] (by decide) rfl [var g76 [.int .i64 0, .int .i64 0, .int .i64 0, .int .i64 0, .int .i64 0, .int .i64 0, .int .i64 0, .int .i64 0, Value.slice none 0 0] 28, var g1 [.int .i64 x0, .int .i64 x1, .int .i64 x2, .int .i64 x3, .int .i64 x4, .int .i64 x5, .int .i64 x6] 23, var g20 [.int .i64 x0, .int .i64 x1, .int .i64 x2, .int .i64 x3, .int .i64 x4, .int .i64 x5, .int .i64 x6, .int .i64 2, V] 28, row V22 4 1 (hs2.map encBo), row V 3 1 (R.map encZ)] rfl RoOk.nil) rfl ?_
                  rintro _ _ ⟨_, ⟨rfl, rfl⟩, rfl⟩
                  refine O.p (Pu.assign rfl) rfl ?_
                  refine O.nil ?_
                  exact J.ret (Fin.ret (rs := [.tmp 6]) rfl [_] ⟨rfl, trivial⟩ [] (by decide) [] rfl ⟨rfl, rfl⟩)
            ·
              have p78 := of_decide_eq_false h50
              have hmr : m = false := (by rw [hm, Jb.mine_all (by omega), ← hR]; exact h50)
              subst hmr
              refine J.drawA Try.mixed ?_
              refine A.edge 11 15 rfl ?_ ?_
              ·
                refine A.mix [(0, false), (1, false), (2, false), (3, false), (4, false), (5, false), (6, false), (7, false), (8, false), (9, false), (10, false), (15, true), (11, true), (12, false), (13, false), (14, false), (16, true), (17, false)] [1] [var g20 [.int .i64 x0, .int .i64 x1, .int .i64 x2, .int .i64 x3, .int .i64 x4, .int .i64 x5, .int .i64 x6, .int .i64 2, V] 28] (by kernel_rfl) (by decide) rfl ?_
                refine Mx.q rfl (Qt.ld rfl (Cel.var 0 rfl) (o := 0) (off := 0) rfl (Cut.agg [.int .i64 x0, .int .i64 x1, .int .i64 x2, .int .i64 x3, .int .i64 x4, .int .i64 x5, .int .i64 x6, .int .i64 2, V] Try.isAgg28 Try.sizeOf28 rfl rfl)) rfl ?_
                refine Mx.p rfl (Pu.move rfl) rfl ?_
                refine Mx.p rfl (Pu.move rfl) rfl ?_
                refine Mx.q rfl (Qt.idxM Try.runUnderlying25 Try.sizeOf35 rfl (Src.ro 1 rfl) rfl (by first | omega | (have h_ := Jb.heard_len (needs := needs) (l := l) (k := k) (q := q) (by omega); rw [← hh] at h_; first | omega | (simp only [List.length_set]; omega))) (by first | omega | (have h_ := Jb.heard_len (needs := needs) (l := l) (k := k) (q := q) (by omega); rw [← hh] at h_; first | omega | (simp only [List.length_set]; omega)))) rfl ?_
                refine Mx.p rfl (Pu.fieldAddr (off' := voff lv + ((k : Int)).toNat * 2 + 0) Try.runUnderlying35 rfl Try.sizeOf3 rfl rfl rfl) rfl ?_
                refine Mx.q rfl (Qt.ld rfl (Cel.eltM (Src.ro 1 rfl) ha) (o := (voff lv + k * 2)) (off := 0) (by omega) (Cut.one Try.isAgg3 rfl)) rfl ?_
                refine Mx.p rfl (Pu.move rfl) rfl ?_
                refine Mx.p rfl (Pu.move rfl) rfl ?_
                refine Mx.q rfl (Qt.idxM Try.runUnderlying25 Try.sizeOf35 rfl (Src.ro 1 rfl) rfl (by first | omega | (have h_ := Jb.heard_len (needs := needs) (l := l) (k := k) (q := q) (by omega); rw [← hh] at h_; first | omega | (simp only [List.length_set]; omega))) (by first | omega | (have h_ := Jb.heard_len (needs := needs) (l := l) (k := k) (q := q) (by omega); rw [← hh] at h_; first | omega | (simp only [List.length_set]; omega)))) rfl ?_
                refine Mx.p rfl (Pu.fieldAddr (off' := voff lv + ((k : Int)).toNat * 2 + 1) Try.runUnderlying35 rfl Try.sizeOf3 rfl rfl rfl) rfl ?_
                refine Mx.q rfl (Qt.ld rfl (Cel.eltM (Src.ro 1 rfl) ha) (o := (voff lv + k * 2)) (off := 1) (by omega) (Cut.one Try.isAgg3 rfl)) rfl ?_
                refine Mx.l rfl (Lo.alloc [.int .i64 0, .int .i64 0, .int .i64 0, .int .i64 0, .int .i64 0, .int .i64 0, .int .i64 0, .int .i64 0, Value.slice none 0 0] (by exact Try.zeroValue28) rfl) rfl ?_
                rintro _ _ ⟨g79, rfl, rfl⟩
                refine MxK.go [2] [0] [var g20 [.int .i64 x0, .int .i64 x1, .int .i64 x2, .int .i64 x3, .int .i64 x4, .int .i64 x5, .int .i64 x6, .int .i64 2, V] 28] (by decide) rfl (by decide) rfl ?_
                refine Mx.l rfl (Lo.call [.agg #[.int .i64 x0, .int .i64 x1, .int .i64 x2, .int .i64 x3, .int .i64 x4, .int .i64 x5, .int .i64 x6, .int .i64 2, V], .int .i64 c_, .int .i64 d_] (by exact Try.call14) rfl (jb_HeardNo x0 x1 x2 x3 x4 x5 x6 2 V R c_ d_ (by first | omega | (rw [hR]; have h_ := Jb.rem_len (needs := needs) (l := l) (k := k); omega)) (.inr (of_decide_eq_false h50))) [] [0, 1, 2, 3, 4] (by decide) rfl [var g79 [.int .i64 0, .int .i64 0, .int .i64 0, .int .i64 0, .int .i64 0, .int .i64 0, .int .i64 0, .int .i64 0, Value.slice none 0 0] 28, var g1 [.int .i64 x0, .int .i64 x1, .int .i64 x2, .int .i64 x3, .int .i64 x4, .int .i64 x5, .int .i64 x6] 23, var g20 [.int .i64 x0, .int .i64 x1, .int .i64 x2, .int .i64 x3, .int .i64 x4, .int .i64 x5, .int .i64 x6, .int .i64 2, V] 28, row V22 4 1 (hs2.map encBo), row V 3 1 (R.map encZ)] rfl (RoOk.of 4 rfl row_rd [] (by decide) rfl RoOk.nil)) rfl ?_
                rintro _ _ ⟨_, ⟨V80, rfl, rfl⟩, rfl⟩
                refine MxK.go [3] [0] [var g20 [.int .i64 x0, .int .i64 x1, .int .i64 x2, .int .i64 x3, .int .i64 x4, .int .i64 x5, .int .i64 x6, .int .i64 2, V] 28] (by decide) rfl (by decide) rfl ?_
                refine Mx.p rfl (Pu.move rfl) rfl ?_
                refine Mx.p rfl (Pu.extract rfl rfl) rfl ?_
                refine Mx.p rfl (Pu.extract rfl rfl) rfl ?_
                refine Mx.one rfl (fun _ h => by cases h <;> rfl) (Src.row 0 rfl) (fun hV82 => ?_)
                refine Mx.l0 rfl (Lo.store 1 (vs := [.int .i64 x0, .int .i64 x1, .int .i64 x2, .int .i64 x3, .int .i64 x4, .int .i64 x5, .int .i64 x6, .int .i64 2, V80]) [.int .i64 x0, .int .i64 x1, .int .i64 x2, .int .i64 x3, .int .i64 x4, .int .i64 x5, .int .i64 x6, .int .i64 2, V80] rfl rfl rfl (by exact Try.sizeOf28) rfl rfl (by simp only [List.all_cons, List.all_nil, Bool.and_true, hV82] <;> rfl) rfl rfl) ?_
                rintro _ _ rfl
                refine MxK.go [3] [0] [var g20 [.int .i64 x0, .int .i64 x1, .int .i64 x2, .int .i64 x3, .int .i64 x4, .int .i64 x5, .int .i64 x6, .int .i64 2, V] 28] (by decide) rfl (by decide) rfl ?_
                refine Mx.p rfl (Pu.assign rfl) rfl ?_
                refine Mx.nil ?_
                refine J.seq ?_
                refine J.region ?_
                refine O.p (Pu.assign rfl) rfl ?_
                refine O.nil ?_
                refine J.seq ?_
                refine J.seq ?_
                refine J.region ?_
                refine O.p (Pu.move rfl) rfl ?_
                refine O.p (Pu.move rfl) rfl ?_
                refine O.gskip (t := 128) rfl rfl (no_bool (by decide)) rfl rfl ?_
                refine O.gskip (t := 128) rfl rfl (no_bool (by decide)) rfl rfl ?_
                refine O.gskip (t := 128) rfl rfl (no_bool (by decide)) rfl rfl ?_
                refine O.gskip (t := 128) rfl rfl (no_bool (by decide)) rfl rfl ?_
                refine O.gskip (t := 128) rfl rfl (no_bool (by decide)) rfl rfl ?_
                refine O.gskip (t := 128) rfl rfl (no_bool (by decide)) rfl rfl ?_
                refine O.p (Pu.pickF rfl rfl rfl) rfl ?_
                refine O.nil ?_
                refine J.condF rfl rfl ?_
                refine J.seq ?_
                refine J.region ?_
                refine O.p (Pu.move rfl) rfl ?_
                refine O.p (Pu.move rfl) rfl ?_
                refine O.gskip (t := 137) rfl rfl (no_bool (by decide)) rfl rfl ?_
                refine O.gskip (t := 137) rfl rfl (no_bool (by decide)) rfl rfl ?_
                refine O.p (Pu.pickF rfl rfl rfl) rfl ?_
                refine O.nil ?_
                refine J.condF rfl rfl ?_
                refine J.skip ?_
                refine J.seq ?_
                refine J.seq ?_
                refine J.region ?_
                refine O.p (Pu.move rfl) rfl ?_
                refine O.p (Pu.move rfl) rfl ?_
                refine O.p (Pu.neq rfl rfl) rfl ?_
                refine O.p (Pu.move rfl) rfl ?_
                refine O.gq (t := 144) rfl rfl rfl rfl (Pu.qt (Pu.move rfl)) rfl ?_
                refine O.gq (t := 144) rfl rfl rfl rfl (Pu.qt (Pu.not rfl)) rfl ?_
                refine O.gq (t := 144) rfl rfl rfl rfl (Pu.qt (Pu.move rfl)) rfl ?_
                refine O.gq (t := 147) rfl rfl rfl rfl (Qt.ld rfl (Cel.var 1 rfl) (o := 0) (off := 0) rfl (Cut.agg [.int .i64 x0, .int .i64 x1, .int .i64 x2, .int .i64 x3, .int .i64 x4, .int .i64 x5, .int .i64 x6, .int .i64 2, V80] Try.isAgg28 Try.sizeOf28 rfl rfl)) rfl ?_
                refine O.gq (t := 147) rfl rfl rfl rfl (Qt.ld rfl (Cel.var 3 rfl) (o := 0) (off := 0) rfl (Cut.agg [.int .i64 x0, .int .i64 x1, .int .i64 x2, .int .i64 x3, .int .i64 x4, .int .i64 x5, .int .i64 x6, .int .i64 2, V] Try.isAgg28 Try.sizeOf28 rfl rfl)) rfl ?_
                refine O.gl (t := 147) rfl rfl rfl rfl (Lo.call [.agg #[.int .i64 x0, .int .i64 x1, .int .i64 x2, .int .i64 x3, .int .i64 x4, .int .i64 x5, .int .i64 x6, .int .i64 2, V80], .agg #[.int .i64 x0, .int .i64 x1, .int .i64 x2, .int .i64 x3, .int .i64 x4, .int .i64 x5, .int .i64 x6, .int .i64 2, V]] (by exact Try.call15) rfl (r32_Same x0 x1 x2 x3 x4 x5 x6 2 V80 R x0 x1 x2 x3 x4 x5 x6 2 V R (by first | omega | (rw [hR]; have h_ := Jb.rem_len (needs := needs) (l := l) (k := k); omega)) (by first | omega | (rw [hR]; have h_ := Jb.rem_len (needs := needs) (l := l) (k := k); omega))) [] [0, 1, 2, 3, 4, 5] (by decide) rfl [row V80 3 1 (R.map encZ), var g79 [.int .i64 x0, .int .i64 x1, .int .i64 x2, .int .i64 x3, .int .i64 x4, .int .i64 x5, .int .i64 x6, .int .i64 2, V80] 28, var g1 [.int .i64 x0, .int .i64 x1, .int .i64 x2, .int .i64 x3, .int .i64 x4, .int .i64 x5, .int .i64 x6] 23, var g20 [.int .i64 x0, .int .i64 x1, .int .i64 x2, .int .i64 x3, .int .i64 x4, .int .i64 x5, .int .i64 x6, .int .i64 2, V] 28, row V22 4 1 (hs2.map encBo), row V 3 1 (R.map encZ)] rfl (RoOk.of 0 rfl row_rd [] (by decide) rfl (RoOk.of 5 rfl row_rd [] (by decide) rfl RoOk.nil))) rfl ?_
                rintro _ _ ⟨_, ⟨rfl, rfl⟩, rfl⟩
                refine O.gq (t := 147) rfl rfl rfl rfl (Pu.qt (Pu.not rfl)) rfl ?_
                refine O.gq (t := 144) rfl rfl rfl rfl (Pu.qt (Pu.pickT rfl rfl rfl)) rfl ?_
                refine O.p (Pu.pickF rfl rfl rfl) rfl ?_
                refine O.nil ?_
                refine J.condF rfl (not_of_true (by simp)) ?_
                refine J.skip ?_
                refine J.seq ?_
                refine J.seq ?_
                refine J.region ?_
                refine O.p (Pu.move rfl) rfl ?_
                refine O.p (Pu.neq rfl rfl) rfl ?_
                refine O.nil ?_
                refine J.condF rfl rfl ?_
                refine J.skip ?_
                refine J.region ?_
                refine O.q (Qt.ld rfl (Cel.var 1 rfl) (o := 0) (off := 0) rfl (Cut.agg [.int .i64 x0, .int .i64 x1, .int .i64 x2, .int .i64 x3, .int .i64 x4, .int .i64 x5, .int .i64 x6, .int .i64 2, V80] Try.isAgg28 Try.sizeOf28 rfl rfl)) rfl ?_
                refine O.l0 (Lo.store 3 (vs := [.int .i64 x0, .int .i64 x1, .int .i64 x2, .int .i64 x3, .int .i64 x4, .int .i64 x5, .int .i64 x6, .int .i64 2, V80]) [.int .i64 x0, .int .i64 x1, .int .i64 x2, .int .i64 x3, .int .i64 x4, .int .i64 x5, .int .i64 x6, .int .i64 2, V80] rfl rfl rfl (by exact Try.sizeOf28) rfl rfl (by simp only [List.all_cons, List.all_nil, Bool.and_true, hV82] <;> rfl) rfl rfl) ?_
                rintro _ _ rfl
                refine O.nil ?_
                refine J.blk ?_
                refine J.region ?_
                refine O.p (Pu.move rfl) rfl ?_
                refine O.p (Pu.add' rfl rfl (by first | omega | (have h_ := Jb.left_le (needs := needs) (l := l) (k := k) (q := q); omega))) rfl ?_
                refine O.p (Pu.assign rfl) rfl ?_
                refine O.nil ?_
                exact J.lp ⟨k + 1, V80, hs2, R⟩ (show (k + 1) ≤ l.length ∧ hs2 = Jb.heardK needs l (k + 1) 0 ∧ R = Jb.rem needs l (k + 1) ∧ R ≠ [] from ⟨by omega, (by rw [hh, Jb.heard_all (by omega), Jb.heard_zero]), (by rw [hR]; exact (Jb.rem_not ha (by rw [← hR]; exact of_decide_eq_false h50)).symm), hRn⟩) (show l.length - (k + 1) < l.length - k from (by first | omega | (have h_ := Jb.heard_len (needs := needs) (l := l) (k := k) (q := q) (by omega); rw [← hh] at h_; first | omega | (simp only [List.length_set]; omega)))) ⟨rfl, rfl, rfl, rfl, rfl, (congrArg (fun z => some (Value.int .i64 z)) (by first | rfl | omega : ((k : Int) + 1 : Int) = ((k + 1) : Int))), trivial⟩ [2, 3, 4, 0] (by decide) rfl
              ·
                refine A.mix [(0, false), (1, false), (2, false), (3, false), (4, false), (5, false), (6, false), (7, false), (8, false), (9, false), (10, false), (11, true), (12, false), (13, false), (14, false), (15, true), (16, true), (17, false)] [1] [var g20 [.int .i64 x0, .int .i64 x1, .int .i64 x2, .int .i64 x3, .int .i64 x4, .int .i64 x5, .int .i64 x6, .int .i64 2, V] 28] (by kernel_rfl) (by decide) rfl ?_
                refine Mx.q rfl (Qt.ld rfl (Cel.var 0 rfl) (o := 0) (off := 0) rfl (Cut.agg [.int .i64 x0, .int .i64 x1, .int .i64 x2, .int .i64 x3, .int .i64 x4, .int .i64 x5, .int .i64 x6, .int .i64 2, V] Try.isAgg28 Try.sizeOf28 rfl rfl)) rfl ?_
                refine Mx.p rfl (Pu.move rfl) rfl ?_
                refine Mx.p rfl (Pu.move rfl) rfl ?_
                refine Mx.q rfl (Qt.idxM Try.runUnderlying25 Try.sizeOf35 rfl (Src.ro 1 rfl) rfl (by first | omega | (have h_ := Jb.heard_len (needs := needs) (l := l) (k := k) (q := q) (by omega); rw [← hh] at h_; first | omega | (simp only [List.length_set]; omega))) (by first | omega | (have h_ := Jb.heard_len (needs := needs) (l := l) (k := k) (q := q) (by omega); rw [← hh] at h_; first | omega | (simp only [List.length_set]; omega)))) rfl ?_
                refine Mx.p rfl (Pu.fieldAddr (off' := voff lv + ((k : Int)).toNat * 2 + 0) Try.runUnderlying35 rfl Try.sizeOf3 rfl rfl rfl) rfl ?_
                refine Mx.q rfl (Qt.ld rfl (Cel.eltM (Src.ro 1 rfl) ha) (o := (voff lv + k * 2)) (off := 0) (by omega) (Cut.one Try.isAgg3 rfl)) rfl ?_
                refine Mx.p rfl (Pu.move rfl) rfl ?_
                refine Mx.p rfl (Pu.move rfl) rfl ?_
                refine Mx.q rfl (Qt.idxM Try.runUnderlying25 Try.sizeOf35 rfl (Src.ro 1 rfl) rfl (by first | omega | (have h_ := Jb.heard_len (needs := needs) (l := l) (k := k) (q := q) (by omega); rw [← hh] at h_; first | omega | (simp only [List.length_set]; omega))) (by first | omega | (have h_ := Jb.heard_len (needs := needs) (l := l) (k := k) (q := q) (by omega); rw [← hh] at h_; first | omega | (simp only [List.length_set]; omega)))) rfl ?_
                refine Mx.p rfl (Pu.fieldAddr (off' := voff lv + ((k : Int)).toNat * 2 + 1) Try.runUnderlying35 rfl Try.sizeOf3 rfl rfl rfl) rfl ?_
                refine Mx.q rfl (Qt.ld rfl (Cel.eltM (Src.ro 1 rfl) ha) (o := (voff lv + k * 2)) (off := 1) (by omega) (Cut.one Try.isAgg3 rfl)) rfl ?_
                refine Mx.l rfl (Lo.call [.agg #[.int .i64 x0, .int .i64 x1, .int .i64 x2, .int .i64 x3, .int .i64 x4, .int .i64 x5, .int .i64 x6, .int .i64 2, V], .int .i64 c_, .int .i64 d_] (by exact Try.call14) rfl (jb_HeardNo x0 x1 x2 x3 x4 x5 x6 2 V R c_ d_ (by first | omega | (rw [hR]; have h_ := Jb.rem_len (needs := needs) (l := l) (k := k); omega)) (.inr (of_decide_eq_false h50))) [] [0, 1, 2, 3] (by decide) rfl [var g1 [.int .i64 x0, .int .i64 x1, .int .i64 x2, .int .i64 x3, .int .i64 x4, .int .i64 x5, .int .i64 x6] 23, var g20 [.int .i64 x0, .int .i64 x1, .int .i64 x2, .int .i64 x3, .int .i64 x4, .int .i64 x5, .int .i64 x6, .int .i64 2, V] 28, row V22 4 1 (hs2.map encBo), row V 3 1 (R.map encZ)] rfl (RoOk.of 3 rfl row_rd [] (by decide) rfl RoOk.nil)) rfl ?_
                rintro _ _ ⟨_, ⟨V84, rfl, rfl⟩, rfl⟩
                refine MxK.go [2] [0] [var g20 [.int .i64 x0, .int .i64 x1, .int .i64 x2, .int .i64 x3, .int .i64 x4, .int .i64 x5, .int .i64 x6, .int .i64 2, V] 28] (by decide) rfl (by decide) rfl ?_
                refine Mx.p rfl (Pu.move rfl) rfl ?_
                refine Mx.p rfl (Pu.extract rfl rfl) rfl ?_
                refine Mx.p rfl (Pu.extract rfl rfl) rfl ?_
                refine Mx.l rfl (Lo.alloc [.int .i64 0, .int .i64 0, .int .i64 0, .int .i64 0, .int .i64 0, .int .i64 0, .int .i64 0, .int .i64 0, Value.slice none 0 0] (by exact Try.zeroValue28) rfl) rfl ?_
                rintro _ _ ⟨g86, rfl, rfl⟩
                refine MxK.go [3] [0] [var g20 [.int .i64 x0, .int .i64 x1, .int .i64 x2, .int .i64 x3, .int .i64 x4, .int .i64 x5, .int .i64 x6, .int .i64 2, V] 28] (by decide) rfl (by decide) rfl ?_
                refine Mx.one rfl (fun _ h => by cases h <;> rfl) (Src.row 1 rfl) (fun hV87 => ?_)
                refine Mx.l0 rfl (Lo.store 0 (vs := [.int .i64 x0, .int .i64 x1, .int .i64 x2, .int .i64 x3, .int .i64 x4, .int .i64 x5, .int .i64 x6, .int .i64 2, V84]) [.int .i64 x0, .int .i64 x1, .int .i64 x2, .int .i64 x3, .int .i64 x4, .int .i64 x5, .int .i64 x6, .int .i64 2, V84] rfl rfl rfl (by exact Try.sizeOf28) rfl rfl (by simp only [List.all_cons, List.all_nil, Bool.and_true, hV87] <;> rfl) rfl rfl) ?_
                rintro _ _ rfl
                refine MxK.go [3] [0] [var g20 [.int .i64 x0, .int .i64 x1, .int .i64 x2, .int .i64 x3, .int .i64 x4, .int .i64 x5, .int .i64 x6, .int .i64 2, V] 28] (by decide) rfl (by decide) rfl ?_
                refine Mx.p rfl (Pu.assign rfl) rfl ?_
                refine Mx.nil ?_
                refine J.seq ?_
                refine J.region ?_
                refine O.p (Pu.assign rfl) rfl ?_
                refine O.nil ?_
                refine J.seq ?_
                refine J.seq ?_
                refine J.region ?_
                refine O.p (Pu.move rfl) rfl ?_
                refine O.p (Pu.move rfl) rfl ?_
                refine O.gskip (t := 128) rfl rfl (no_bool (by decide)) rfl rfl ?_
                refine O.gskip (t := 128) rfl rfl (no_bool (by decide)) rfl rfl ?_
                refine O.gskip (t := 128) rfl rfl (no_bool (by decide)) rfl rfl ?_
                refine O.gskip (t := 128) rfl rfl (no_bool (by decide)) rfl rfl ?_
                refine O.gskip (t := 128) rfl rfl (no_bool (by decide)) rfl rfl ?_
                refine O.gskip (t := 128) rfl rfl (no_bool (by decide)) rfl rfl ?_
                refine O.p (Pu.pickF rfl rfl rfl) rfl ?_
                refine O.nil ?_
                refine J.condF rfl rfl ?_
                refine J.seq ?_
                refine J.region ?_
                refine O.p (Pu.move rfl) rfl ?_
                refine O.p (Pu.move rfl) rfl ?_
                refine O.gskip (t := 137) rfl rfl (no_bool (by decide)) rfl rfl ?_
                refine O.gskip (t := 137) rfl rfl (no_bool (by decide)) rfl rfl ?_
                refine O.p (Pu.pickF rfl rfl rfl) rfl ?_
                refine O.nil ?_
                refine J.condF rfl rfl ?_
                refine J.skip ?_
                refine J.seq ?_
                refine J.seq ?_
                refine J.region ?_
                refine O.p (Pu.move rfl) rfl ?_
                refine O.p (Pu.move rfl) rfl ?_
                refine O.p (Pu.neq rfl rfl) rfl ?_
                refine O.p (Pu.move rfl) rfl ?_
                refine O.gq (t := 144) rfl rfl rfl rfl (Pu.qt (Pu.move rfl)) rfl ?_
                refine O.gq (t := 144) rfl rfl rfl rfl (Pu.qt (Pu.not rfl)) rfl ?_
                refine O.gq (t := 144) rfl rfl rfl rfl (Pu.qt (Pu.move rfl)) rfl ?_
                refine O.gq (t := 147) rfl rfl rfl rfl (Qt.ld rfl (Cel.var 0 rfl) (o := 0) (off := 0) rfl (Cut.agg [.int .i64 x0, .int .i64 x1, .int .i64 x2, .int .i64 x3, .int .i64 x4, .int .i64 x5, .int .i64 x6, .int .i64 2, V84] Try.isAgg28 Try.sizeOf28 rfl rfl)) rfl ?_
                refine O.gq (t := 147) rfl rfl rfl rfl (Qt.ld rfl (Cel.var 3 rfl) (o := 0) (off := 0) rfl (Cut.agg [.int .i64 x0, .int .i64 x1, .int .i64 x2, .int .i64 x3, .int .i64 x4, .int .i64 x5, .int .i64 x6, .int .i64 2, V] Try.isAgg28 Try.sizeOf28 rfl rfl)) rfl ?_
                refine O.gl (t := 147) rfl rfl rfl rfl (Lo.call [.agg #[.int .i64 x0, .int .i64 x1, .int .i64 x2, .int .i64 x3, .int .i64 x4, .int .i64 x5, .int .i64 x6, .int .i64 2, V84], .agg #[.int .i64 x0, .int .i64 x1, .int .i64 x2, .int .i64 x3, .int .i64 x4, .int .i64 x5, .int .i64 x6, .int .i64 2, V]] (by exact Try.call15) rfl (r32_Same x0 x1 x2 x3 x4 x5 x6 2 V84 R x0 x1 x2 x3 x4 x5 x6 2 V R (by first | omega | (rw [hR]; have h_ := Jb.rem_len (needs := needs) (l := l) (k := k); omega)) (by first | omega | (rw [hR]; have h_ := Jb.rem_len (needs := needs) (l := l) (k := k); omega))) [] [0, 1, 2, 3, 4, 5] (by decide) rfl [var g86 [.int .i64 x0, .int .i64 x1, .int .i64 x2, .int .i64 x3, .int .i64 x4, .int .i64 x5, .int .i64 x6, .int .i64 2, V84] 28, row V84 3 1 (R.map encZ), var g1 [.int .i64 x0, .int .i64 x1, .int .i64 x2, .int .i64 x3, .int .i64 x4, .int .i64 x5, .int .i64 x6] 23, var g20 [.int .i64 x0, .int .i64 x1, .int .i64 x2, .int .i64 x3, .int .i64 x4, .int .i64 x5, .int .i64 x6, .int .i64 2, V] 28, row V22 4 1 (hs2.map encBo), row V 3 1 (R.map encZ)] rfl (RoOk.of 1 rfl row_rd [] (by decide) rfl (RoOk.of 5 rfl row_rd [] (by decide) rfl RoOk.nil))) rfl ?_
                rintro _ _ ⟨_, ⟨rfl, rfl⟩, rfl⟩
                refine O.gq (t := 147) rfl rfl rfl rfl (Pu.qt (Pu.not rfl)) rfl ?_
                refine O.gq (t := 144) rfl rfl rfl rfl (Pu.qt (Pu.pickT rfl rfl rfl)) rfl ?_
                refine O.p (Pu.pickF rfl rfl rfl) rfl ?_
                refine O.nil ?_
                refine J.condF rfl (not_of_true (by simp)) ?_
                refine J.skip ?_
                refine J.seq ?_
                refine J.seq ?_
                refine J.region ?_
                refine O.p (Pu.move rfl) rfl ?_
                refine O.p (Pu.neq rfl rfl) rfl ?_
                refine O.nil ?_
                refine J.condF rfl rfl ?_
                refine J.skip ?_
                refine J.region ?_
                refine O.q (Qt.ld rfl (Cel.var 0 rfl) (o := 0) (off := 0) rfl (Cut.agg [.int .i64 x0, .int .i64 x1, .int .i64 x2, .int .i64 x3, .int .i64 x4, .int .i64 x5, .int .i64 x6, .int .i64 2, V84] Try.isAgg28 Try.sizeOf28 rfl rfl)) rfl ?_
                refine O.l0 (Lo.store 3 (vs := [.int .i64 x0, .int .i64 x1, .int .i64 x2, .int .i64 x3, .int .i64 x4, .int .i64 x5, .int .i64 x6, .int .i64 2, V84]) [.int .i64 x0, .int .i64 x1, .int .i64 x2, .int .i64 x3, .int .i64 x4, .int .i64 x5, .int .i64 x6, .int .i64 2, V84] rfl rfl rfl (by exact Try.sizeOf28) rfl rfl (by simp only [List.all_cons, List.all_nil, Bool.and_true, hV87] <;> rfl) rfl rfl) ?_
                rintro _ _ rfl
                refine O.nil ?_
                refine J.blk ?_
                refine J.region ?_
                refine O.p (Pu.move rfl) rfl ?_
                refine O.p (Pu.add' rfl rfl (by first | omega | (have h_ := Jb.left_le (needs := needs) (l := l) (k := k) (q := q); omega))) rfl ?_
                refine O.p (Pu.assign rfl) rfl ?_
                refine O.nil ?_
                exact J.lp ⟨k + 1, V84, hs2, R⟩ (show (k + 1) ≤ l.length ∧ hs2 = Jb.heardK needs l (k + 1) 0 ∧ R = Jb.rem needs l (k + 1) ∧ R ≠ [] from ⟨by omega, (by rw [hh, Jb.heard_all (by omega), Jb.heard_zero]), (by rw [hR]; exact (Jb.rem_not ha (by rw [← hR]; exact of_decide_eq_false h50)).symm), hRn⟩) (show l.length - (k + 1) < l.length - k from (by first | omega | (have h_ := Jb.heard_len (needs := needs) (l := l) (k := k) (q := q) (by omega); rw [← hh] at h_; first | omega | (simp only [List.length_set]; omega)))) ⟨rfl, rfl, rfl, rfl, rfl, (congrArg (fun z => some (Value.int .i64 z)) (by first | rfl | omega : ((k : Int) + 1 : Int) = ((k + 1) : Int))), trivial⟩ [2, 3, 4, 1] (by decide) rfl
        ·
          have p89 := of_decide_eq_false h24
          refine J.exit _ rfl ?_
          refine J.seq ?_
          refine J.region ?_
          refine O.p (Pu.fieldAddr (off' := 7) Try.runUnderlying28 rfl Try.sizeOf3 rfl rfl rfl) rfl ?_
          refine O.q (Qt.ld rfl (Cel.var 1 rfl) (o := 0) (off := 7) rfl (Cut.one Try.isAgg3 rfl)) rfl ?_
          refine O.p (Pu.eql rfl rfl) rfl ?_
          refine O.p (Pu.move rfl) rfl ?_
          refine O.gq (t := 161) rfl rfl rfl rfl (Pu.qt (Pu.fieldAddr (off' := 0) Try.runUnderlying28 rfl Try.sizeOf23 rfl rfl rfl)) rfl ?_
          refine O.gq (t := 161) rfl rfl rfl rfl (Qt.ld rfl (Cel.var 1 rfl) (o := 0) (off := 0) rfl (Cut.agg [.int .i64 x0, .int .i64 x1, .int .i64 x2, .int .i64 x3, .int .i64 x4, .int .i64 x5, .int .i64 x6] Try.isAgg23 Try.sizeOf23 rfl rfl)) rfl ?_
          refine O.gq (t := 161) rfl rfl rfl rfl (Qt.ld rfl (Cel.var 0 rfl) (o := 0) (off := 0) rfl (Cut.agg [.int .i64 x0, .int .i64 x1, .int .i64 x2, .int .i64 x3, .int .i64 x4, .int .i64 x5, .int .i64 x6] Try.isAgg23 Try.sizeOf23 rfl rfl)) rfl ?_
          refine O.gq (t := 161) rfl rfl rfl rfl (Pu.qt (Pu.eqlI [x0, x1, x2, x3, x4, x5, x6] [x0, x1, x2, x3, x4, x5, x6] Try.underlying23 Try.stoodInHeld23 Try.eqGuardType23 (fint23 Try.underlying23) rfl rfl rfl rfl)) rfl ?_
          refine O.p (Pu.pickT rfl rfl rfl) rfl ?_
          refine O.p (Pu.move rfl) rfl ?_
          refine O.gl (t := 167) rfl rfl (by simp) rfl (Lo.call [] (by exact Try.call11) rfl law32_awake [] [0, 1, 2, 3] (by decide) rfl [var g1 [.int .i64 x0, .int .i64 x1, .int .i64 x2, .int .i64 x3, .int .i64 x4, .int .i64 x5, .int .i64 x6] 23, var g20 [.int .i64 x0, .int .i64 x1, .int .i64 x2, .int .i64 x3, .int .i64 x4, .int .i64 x5, .int .i64 x6, .int .i64 2, V] 28, row V22 4 1 (hs.map encBo), row V 3 1 (R.map encZ)] rfl RoOk.nil) rfl ?_
          rintro _ _ ⟨_, ⟨rfl, rfl⟩, rfl⟩
          refine O.p (Pu.pickT rfl (by simp) rfl) rfl ?_
          refine O.p (Pu.assign rfl) rfl ?_
          refine O.nil ?_
          exact J.ret (Fin.ret (rs := [.tmp 6]) rfl [_] ⟨rfl, trivial⟩ [] (by decide) [] rfl ⟨rfl, rfl⟩)

end Go.Proofs.Ytnkhmbbnabejhaa
