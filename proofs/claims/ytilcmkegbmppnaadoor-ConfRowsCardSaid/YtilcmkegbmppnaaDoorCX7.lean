/-
  Walks, printed by a program of mine (lk.py): each function meets its contract.
-/
import Derived.KernelRfl
import Derived.Test.YtilcmkegbmppnaaDoorCX6
namespace Go.Proofs.YtilcmkegbmppnaaDoor
open Go Go.LK
set_option linter.unusedSimpArgs false

set_option maxRecDepth 100000 in
set_option maxHeartbeats 2000000 in
theorem law28_confRows (x0 x1 x2 x3 x4 x5 x6 x7 x8 x9 x10 x11 x12 : Int) (cv : Value) (cs : List Cl) (text word : Wd.Bs) (nv : Value) (ns : List Wd.Bs) (zv : Value) (zs : List Int) (hI : Kn.I64s [x0, x1, x2, x3, x4, x5, x6, x7, x8, x9, x10, x11, x12]) (hC : ∀ c ∈ cs, Cf.ClI c) (hz : Kn.I64s zs) : Tri Tryd.prog 3 #[.agg #[.int .i64 x0, .int .i64 x1, .int .i64 x2, .int .i64 x3, .int .i64 x4, .int .i64 x5, .int .i64 x6, .int .i64 x7, .int .i64 x8, .int .i64 x9, .int .i64 x10, .int .i64 x11, .int .i64 x12, cv], .agg #[str text, str word, nv], zv] [libW, var 0 (Kn.names.map vS) 130, rd cv 4 (cs.map Cl.cells), rd nv 1 (ns.map encS), rd zv 1 (zs.map encZ)] [] (fun v L' => v = .bool true ∧ L' = []) := by
  refine Tri.enter (args := [.agg #[.int .i64 x0, .int .i64 x1, .int .i64 x2, .int .i64 x3, .int .i64 x4, .int .i64 x5, .int .i64 x6, .int .i64 x7, .int .i64 x8, .int .i64 x9, .int .i64 x10, .int .i64 x11, .int .i64 x12, cv], .agg #[str text, str word, nv], zv]) (body := _) 160 Tryd.func3 rfl Tryd.ntmps3 rfl ?_
  intro w0
  refine J.seq ?_
  refine J.region ?_
  refine O.one (Src.ro 2 rfl) (fun hV2 => ?_)
  refine O.l (Lo.box [.int .i64 x0, .int .i64 x1, .int .i64 x2, .int .i64 x3, .int .i64 x4, .int .i64 x5, .int .i64 x6, .int .i64 x7, .int .i64 x8, .int .i64 x9, .int .i64 x10, .int .i64 x11, .int .i64 x12, cv] rfl rfl) rfl ?_
  rintro _ _ ⟨g1, rfl, rfl⟩
  refine O.one (Src.ro 3 rfl) (fun hV4 => ?_)
  refine O.l (Lo.box [str text, str word, nv] rfl rfl) rfl ?_
  rintro _ _ ⟨g3, rfl, rfl⟩
  refine O.p (Pu.assign rfl) rfl ?_
  refine O.nil ?_
  refine J.seq ?_
  refine J.seq ?_
  refine J.region ?_
  refine O.p (Pu.fieldAddr (off' := 13) Tryd.runUnderlying26 rfl Tryd.sizeOf24 rfl rfl rfl) rfl ?_
  refine O.q (Qt.ld rfl (Cel.var 1 rfl) (o := 0) (off := 13) rfl (Cut.one Tryd.isAgg24 rfl)) rfl ?_
  refine O.q (Qt.lenM Tryd.runUnderlying24 rfl (Src.ro 2 rfl)) rfl ?_
  refine O.p (Pu.gtr rfl rfl) rfl ?_
  refine O.p (Pu.move rfl) rfl ?_
  refine by_bool (decide (20 < (cs.length : Int))) (fun h5 => ?_) (fun h5 => ?_)
  ·
    have p6 := of_decide_eq_true h5
    refine O.gskip (t := 24) rfl rfl (no_bool (by rw [h5]; decide)) rfl rfl ?_
    refine O.gskip (t := 24) rfl rfl (no_bool (by rw [h5]; decide)) rfl rfl ?_
    refine O.gskip (t := 24) rfl rfl (no_bool (by rw [h5]; decide)) rfl rfl ?_
    refine O.gskip (t := 24) rfl rfl (no_bool (by rw [h5]; decide)) rfl rfl ?_
    refine O.p (Pu.pickT rfl h5 rfl) rfl ?_
    refine O.p (Pu.move rfl) rfl ?_
    refine O.gskip (t := 30) rfl rfl (no_bool (by decide)) rfl rfl ?_
    refine O.gskip (t := 30) rfl rfl (no_bool (by decide)) rfl rfl ?_
    refine O.gskip (t := 30) rfl rfl (no_bool (by decide)) rfl rfl ?_
    refine O.gskip (t := 30) rfl rfl (no_bool (by decide)) rfl rfl ?_
    refine O.p (Pu.pickT rfl rfl rfl) rfl ?_
    refine O.p (Pu.move rfl) rfl ?_
    refine O.gskip (t := 36) rfl rfl (no_bool (by decide)) rfl rfl ?_
    refine O.gskip (t := 36) rfl rfl (no_bool (by decide)) rfl rfl ?_
    refine O.gskip (t := 36) rfl rfl (no_bool (by decide)) rfl rfl ?_
    refine O.gskip (t := 36) rfl rfl (no_bool (by decide)) rfl rfl ?_
    refine O.p (Pu.pickT rfl rfl rfl) rfl ?_
    refine O.p (Pu.move rfl) rfl ?_
    refine O.gskip (t := 42) rfl rfl (no_bool (by decide)) rfl rfl ?_
    refine O.gskip (t := 42) rfl rfl (no_bool (by decide)) rfl rfl ?_
    refine O.gskip (t := 42) rfl rfl (no_bool (by decide)) rfl rfl ?_
    refine O.p (Pu.pickT rfl rfl rfl) rfl ?_
    refine O.nil ?_
    refine J.condT rfl rfl ?_
    refine J.seq ?_
    refine J.region ?_
    refine O.l (Lo.call [] (by exact Tryd.call7) rfl law28_awake [] [0, 1] (by decide) rfl [var g3 [str text, str word, nv] 29, var g1 [.int .i64 x0, .int .i64 x1, .int .i64 x2, .int .i64 x3, .int .i64 x4, .int .i64 x5, .int .i64 x6, .int .i64 x7, .int .i64 x8, .int .i64 x9, .int .i64 x10, .int .i64 x11, .int .i64 x12, cv] 26] rfl (RoOk.ro 0 rfl [] rfl (RoOk.ro 1 rfl [] rfl RoOk.nil))) rfl ?_
    rintro _ _ ⟨_, ⟨rfl, rfl⟩, rfl⟩
    refine O.p (Pu.assign rfl) rfl ?_
    refine O.nil ?_
    exact J.ret (Fin.ret (rs := [.tmp 6]) rfl [_] ⟨rfl, trivial⟩ [] (by decide) [] rfl ⟨rfl, rfl⟩)
  ·
    have p8 := of_decide_eq_false h5
    refine O.gq (t := 24) rfl rfl h5 rfl (Pu.qt (Pu.fieldAddr (off' := 0) Tryd.runUnderlying29 rfl Tryd.sizeOf9 rfl rfl rfl)) rfl ?_
    refine O.gq (t := 24) rfl rfl h5 rfl (Qt.ld rfl (Cel.var 0 rfl) (o := 0) (off := 0) rfl (Cut.one Tryd.isAgg9 rfl)) rfl ?_
    refine O.gq (t := 24) rfl rfl h5 rfl (Pu.qt (Pu.sLen Tryd.runUnderlying9 rfl)) rfl ?_
    refine O.gq (t := 24) rfl rfl h5 rfl (Pu.qt (Pu.gtr rfl rfl)) rfl ?_
    refine O.p (Pu.pickF rfl h5 rfl) rfl ?_
    refine O.p (Pu.move rfl) rfl ?_
    refine by_bool (decide (400 < (text.length : Int))) (fun h9 => ?_) (fun h9 => ?_)
    ·
      have p10 := of_decide_eq_true h9
      refine O.gskip (t := 30) rfl rfl (no_bool (by rw [h9]; decide)) rfl rfl ?_
      refine O.gskip (t := 30) rfl rfl (no_bool (by rw [h9]; decide)) rfl rfl ?_
      refine O.gskip (t := 30) rfl rfl (no_bool (by rw [h9]; decide)) rfl rfl ?_
      refine O.gskip (t := 30) rfl rfl (no_bool (by rw [h9]; decide)) rfl rfl ?_
      refine O.p (Pu.pickT rfl h9 rfl) rfl ?_
      refine O.p (Pu.move rfl) rfl ?_
      refine O.gskip (t := 36) rfl rfl (no_bool (by decide)) rfl rfl ?_
      refine O.gskip (t := 36) rfl rfl (no_bool (by decide)) rfl rfl ?_
      refine O.gskip (t := 36) rfl rfl (no_bool (by decide)) rfl rfl ?_
      refine O.gskip (t := 36) rfl rfl (no_bool (by decide)) rfl rfl ?_
      refine O.p (Pu.pickT rfl rfl rfl) rfl ?_
      refine O.p (Pu.move rfl) rfl ?_
      refine O.gskip (t := 42) rfl rfl (no_bool (by decide)) rfl rfl ?_
      refine O.gskip (t := 42) rfl rfl (no_bool (by decide)) rfl rfl ?_
      refine O.gskip (t := 42) rfl rfl (no_bool (by decide)) rfl rfl ?_
      refine O.p (Pu.pickT rfl rfl rfl) rfl ?_
      refine O.nil ?_
      refine J.condT rfl rfl ?_
      refine J.seq ?_
      refine J.region ?_
      refine O.l (Lo.call [] (by exact Tryd.call7) rfl law28_awake [] [0, 1] (by decide) rfl [var g3 [str text, str word, nv] 29, var g1 [.int .i64 x0, .int .i64 x1, .int .i64 x2, .int .i64 x3, .int .i64 x4, .int .i64 x5, .int .i64 x6, .int .i64 x7, .int .i64 x8, .int .i64 x9, .int .i64 x10, .int .i64 x11, .int .i64 x12, cv] 26] rfl (RoOk.ro 0 rfl [] rfl (RoOk.ro 1 rfl [] rfl RoOk.nil))) rfl ?_
      rintro _ _ ⟨_, ⟨rfl, rfl⟩, rfl⟩
      refine O.p (Pu.assign rfl) rfl ?_
      refine O.nil ?_
      exact J.ret (Fin.ret (rs := [.tmp 6]) rfl [_] ⟨rfl, trivial⟩ [] (by decide) [] rfl ⟨rfl, rfl⟩)
    ·
      have p12 := of_decide_eq_false h9
      refine O.gq (t := 30) rfl rfl h9 rfl (Pu.qt (Pu.fieldAddr (off' := 1) Tryd.runUnderlying29 rfl Tryd.sizeOf9 rfl rfl rfl)) rfl ?_
      refine O.gq (t := 30) rfl rfl h9 rfl (Qt.ld rfl (Cel.var 0 rfl) (o := 0) (off := 1) rfl (Cut.one Tryd.isAgg9 rfl)) rfl ?_
      refine O.gq (t := 30) rfl rfl h9 rfl (Pu.qt (Pu.sLen Tryd.runUnderlying9 rfl)) rfl ?_
      refine O.gq (t := 30) rfl rfl h9 rfl (Pu.qt (Pu.gtr rfl rfl)) rfl ?_
      refine O.p (Pu.pickF rfl h9 rfl) rfl ?_
      refine O.p (Pu.move rfl) rfl ?_
      refine by_bool (decide (400 < (word.length : Int))) (fun h13 => ?_) (fun h13 => ?_)
      ·
        have p14 := of_decide_eq_true h13
        refine O.gskip (t := 36) rfl rfl (no_bool (by rw [h13]; decide)) rfl rfl ?_
        refine O.gskip (t := 36) rfl rfl (no_bool (by rw [h13]; decide)) rfl rfl ?_
        refine O.gskip (t := 36) rfl rfl (no_bool (by rw [h13]; decide)) rfl rfl ?_
        refine O.gskip (t := 36) rfl rfl (no_bool (by rw [h13]; decide)) rfl rfl ?_
        refine O.p (Pu.pickT rfl h13 rfl) rfl ?_
        refine O.p (Pu.move rfl) rfl ?_
        refine O.gskip (t := 42) rfl rfl (no_bool (by decide)) rfl rfl ?_
        refine O.gskip (t := 42) rfl rfl (no_bool (by decide)) rfl rfl ?_
        refine O.gskip (t := 42) rfl rfl (no_bool (by decide)) rfl rfl ?_
        refine O.p (Pu.pickT rfl rfl rfl) rfl ?_
        refine O.nil ?_
        refine J.condT rfl rfl ?_
        refine J.seq ?_
        refine J.region ?_
        refine O.l (Lo.call [] (by exact Tryd.call7) rfl law28_awake [] [0, 1] (by decide) rfl [var g3 [str text, str word, nv] 29, var g1 [.int .i64 x0, .int .i64 x1, .int .i64 x2, .int .i64 x3, .int .i64 x4, .int .i64 x5, .int .i64 x6, .int .i64 x7, .int .i64 x8, .int .i64 x9, .int .i64 x10, .int .i64 x11, .int .i64 x12, cv] 26] rfl (RoOk.ro 0 rfl [] rfl (RoOk.ro 1 rfl [] rfl RoOk.nil))) rfl ?_
        rintro _ _ ⟨_, ⟨rfl, rfl⟩, rfl⟩
        refine O.p (Pu.assign rfl) rfl ?_
        refine O.nil ?_
        exact J.ret (Fin.ret (rs := [.tmp 6]) rfl [_] ⟨rfl, trivial⟩ [] (by decide) [] rfl ⟨rfl, rfl⟩)
      ·
        have p16 := of_decide_eq_false h13
        refine O.gq (t := 36) rfl rfl h13 rfl (Pu.qt (Pu.fieldAddr (off' := 2) Tryd.runUnderlying29 rfl Tryd.sizeOf27 rfl rfl rfl)) rfl ?_
        refine O.gq (t := 36) rfl rfl h13 rfl (Qt.ld rfl (Cel.var 0 rfl) (o := 0) (off := 2) rfl (Cut.one Tryd.isAgg27 rfl)) rfl ?_
        refine O.gq (t := 36) rfl rfl h13 rfl (Qt.lenM Tryd.runUnderlying27 rfl (Src.ro 3 rfl)) rfl ?_
        refine O.gq (t := 36) rfl rfl h13 rfl (Pu.qt (Pu.gtr rfl rfl)) rfl ?_
        refine O.p (Pu.pickF rfl h13 rfl) rfl ?_
        refine O.p (Pu.move rfl) rfl ?_
        refine by_bool (decide (20 < (ns.length : Int))) (fun h17 => ?_) (fun h17 => ?_)
        ·
          have p18 := of_decide_eq_true h17
          refine O.gskip (t := 42) rfl rfl (no_bool (by rw [h17]; decide)) rfl rfl ?_
          refine O.gskip (t := 42) rfl rfl (no_bool (by rw [h17]; decide)) rfl rfl ?_
          refine O.gskip (t := 42) rfl rfl (no_bool (by rw [h17]; decide)) rfl rfl ?_
          refine O.p (Pu.pickT rfl h17 rfl) rfl ?_
          refine O.nil ?_
          refine J.condT rfl rfl ?_
          refine J.seq ?_
          refine J.region ?_
          refine O.l (Lo.call [] (by exact Tryd.call7) rfl law28_awake [] [0, 1] (by decide) rfl [var g3 [str text, str word, nv] 29, var g1 [.int .i64 x0, .int .i64 x1, .int .i64 x2, .int .i64 x3, .int .i64 x4, .int .i64 x5, .int .i64 x6, .int .i64 x7, .int .i64 x8, .int .i64 x9, .int .i64 x10, .int .i64 x11, .int .i64 x12, cv] 26] rfl (RoOk.ro 0 rfl [] rfl (RoOk.ro 1 rfl [] rfl RoOk.nil))) rfl ?_
          rintro _ _ ⟨_, ⟨rfl, rfl⟩, rfl⟩
          refine O.p (Pu.assign rfl) rfl ?_
          refine O.nil ?_
          exact J.ret (Fin.ret (rs := [.tmp 6]) rfl [_] ⟨rfl, trivial⟩ [] (by decide) [] rfl ⟨rfl, rfl⟩)
        ·
          have p20 := of_decide_eq_false h17
          refine O.gq (t := 42) rfl rfl h17 rfl (Pu.qt (Pu.move rfl)) rfl ?_
          refine O.gq (t := 42) rfl rfl h17 rfl (Qt.lenM Tryd.runUnderlying30 rfl (Src.ro 4 rfl)) rfl ?_
          refine O.gq (t := 42) rfl rfl h17 rfl (Pu.qt (Pu.gtr rfl rfl)) rfl ?_
          refine O.p (Pu.pickF rfl h17 rfl) rfl ?_
          refine O.nil ?_
          refine J.cond rfl (fun h21 => ?_) (fun h21 => ?_)
          ·
            have p22 := of_decide_eq_true h21
            refine J.seq ?_
            refine J.region ?_
            refine O.l (Lo.call [] (by exact Tryd.call7) rfl law28_awake [] [0, 1] (by decide) rfl [var g3 [str text, str word, nv] 29, var g1 [.int .i64 x0, .int .i64 x1, .int .i64 x2, .int .i64 x3, .int .i64 x4, .int .i64 x5, .int .i64 x6, .int .i64 x7, .int .i64 x8, .int .i64 x9, .int .i64 x10, .int .i64 x11, .int .i64 x12, cv] 26] rfl (RoOk.ro 0 rfl [] rfl (RoOk.ro 1 rfl [] rfl RoOk.nil))) rfl ?_
            rintro _ _ ⟨_, ⟨rfl, rfl⟩, rfl⟩
            refine O.p (Pu.assign rfl) rfl ?_
            refine O.nil ?_
            exact J.ret (Fin.ret (rs := [.tmp 6]) rfl [_] ⟨rfl, trivial⟩ [] (by decide) [] rfl ⟨rfl, rfl⟩)
          ·
            have p24 := of_decide_eq_false h21
            refine J.skip ?_
            refine J.seq ?_
            refine J.seq ?_
            refine J.region ?_
            refine O.p (Pu.assign rfl) rfl ?_
            refine O.nil ?_
            refine J.block ?_
            refine J.loop (X := Nat) (fun ξ => ξ ≤ ns.length ∧ ∀ x ∈ ns.take ξ, x.length ≤ 400) (fun ξ => [(2, zv), (3, .pointer (some ⟨g1, 0, none⟩)), (4, .pointer (some ⟨g3, 0, none⟩)), (7, .int .i64 (ξ : Int))]) (fun ξ => [var g1 [.int .i64 x0, .int .i64 x1, .int .i64 x2, .int .i64 x3, .int .i64 x4, .int .i64 x5, .int .i64 x6, .int .i64 x7, .int .i64 x8, .int .i64 x9, .int .i64 x10, .int .i64 x11, .int .i64 x12, cv] 26, var g3 [str text, str word, nv] 29]) (fun ξ => ns.length - ξ) 0 (show 0 ≤ ns.length ∧ ∀ x ∈ ns.take 0, x.length ≤ 400 from ⟨by omega, by simp⟩) ⟨rfl, rfl, rfl, (congrArg (fun z => some (Value.int .i64 z)) (by first | rfl | omega : (0 : Int) = (0 : Int))), trivial⟩ [1, 0] (by decide) rfl ?_
            rintro k hq25
            obtain ⟨hk, hst⟩ : k ≤ ns.length ∧ ∀ x ∈ ns.take k, x.length ≤ 400 := hq25
            show J _ _ [(2, zv), (3, .pointer (some ⟨g1, 0, none⟩)), (4, .pointer (some ⟨g3, 0, none⟩)), (7, .int .i64 (k : Int))] [var g1 [.int .i64 x0, .int .i64 x1, .int .i64 x2, .int .i64 x3, .int .i64 x4, .int .i64 x5, .int .i64 x6, .int .i64 x7, .int .i64 x8, .int .i64 x9, .int .i64 x10, .int .i64 x11, .int .i64 x12, cv] 26, var g3 [str text, str word, nv] 29]
            refine J.seq ?_
            refine J.seq ?_
            refine J.region ?_
            refine O.p (Pu.move rfl) rfl ?_
            refine O.p (Pu.fieldAddr (off' := 2) Tryd.runUnderlying29 rfl Tryd.sizeOf27 rfl rfl rfl) rfl ?_
            refine O.q (Qt.ld rfl (Cel.var 1 rfl) (o := 0) (off := 2) rfl (Cut.one Tryd.isAgg27 rfl)) rfl ?_
            refine O.q (Qt.lenM Tryd.runUnderlying27 rfl (Src.ro 3 rfl)) rfl ?_
            refine O.p (Pu.lss rfl rfl) rfl ?_
            refine O.nil ?_
            refine J.cond rfl (fun h26 => ?_) (fun h26 => ?_)
            ·
              have p27 := of_decide_eq_true h26
              refine J.skip ?_
              refine J.seq ?_
              refine J.block ?_
              refine J.seq ?_
              refine J.region ?_
              refine O.p (Pu.fieldAddr (off' := 2) Tryd.runUnderlying29 rfl Tryd.sizeOf27 rfl rfl rfl) rfl ?_
              refine O.q (Qt.ld rfl (Cel.var 1 rfl) (o := 0) (off := 2) rfl (Cut.one Tryd.isAgg27 rfl)) rfl ?_
              refine O.p (Pu.move rfl) rfl ?_
              obtain ⟨e28, he28⟩ : ∃ x_, ns[k]? = some x_ := ⟨_, List.getElem?_eq_getElem (by first | omega | decide)⟩
              refine O.q (Qt.idxM Tryd.runUnderlying27 Tryd.sizeOf9 rfl (Src.ro 3 rfl) rfl (by first | omega | decide) (by first | omega | decide)) rfl ?_
              refine O.q (Qt.ld rfl (Cel.eltM (Src.ro 3 rfl) he28) (o := (voff nv + k * 1)) (off := 0) (by omega) (Cut.one Tryd.isAgg9 rfl)) rfl ?_
              refine O.p (Pu.sLen Tryd.runUnderlying9 rfl) rfl ?_
              refine O.p (Pu.gtr rfl rfl) rfl ?_
              refine O.nil ?_
              refine J.cond rfl (fun h29 => ?_) (fun h29 => ?_)
              ·
                have p30 := of_decide_eq_true h29
                refine J.seq ?_
                refine J.region ?_
                refine O.l (Lo.call [] (by exact Tryd.call7) rfl law28_awake [] [0, 1] (by decide) rfl [var g1 [.int .i64 x0, .int .i64 x1, .int .i64 x2, .int .i64 x3, .int .i64 x4, .int .i64 x5, .int .i64 x6, .int .i64 x7, .int .i64 x8, .int .i64 x9, .int .i64 x10, .int .i64 x11, .int .i64 x12, cv] 26, var g3 [str text, str word, nv] 29] rfl (RoOk.ro 0 rfl [] rfl (RoOk.ro 1 rfl [] rfl RoOk.nil))) rfl ?_
                rintro _ _ ⟨_, ⟨rfl, rfl⟩, rfl⟩
                refine O.p (Pu.assign rfl) rfl ?_
                refine O.nil ?_
                exact J.ret (Fin.ret (rs := [.tmp 6]) rfl [_] ⟨rfl, trivial⟩ [] (by decide) [] rfl ⟨rfl, rfl⟩)
              ·
                have p32 := of_decide_eq_false h29
                refine J.skip ?_
                refine J.blk ?_
                refine J.region ?_
                refine O.p (Pu.move rfl) rfl ?_
                refine O.p (Pu.add' rfl rfl (by first | omega | (simp only [List.length_append, List.length_cons, List.length_nil, List.length_set]; omega))) rfl ?_
                refine O.p (Pu.assign rfl) rfl ?_
                refine O.nil ?_
                exact J.lp (k + 1) (show (k + 1) ≤ ns.length ∧ ∀ x ∈ ns.take (k + 1), x.length ≤ 400 from ⟨by omega, Cf.all_next hst he28 (by omega)⟩) (show ns.length - (k + 1) < ns.length - k from (by first | omega | decide)) ⟨rfl, rfl, rfl, (congrArg (fun z => some (Value.int .i64 z)) (by first | rfl | omega : ((k : Int) + 1 : Int) = ((k + 1) : Int))), trivial⟩ [0, 1] (by decide) rfl
            ·
              have p33 := of_decide_eq_false h26
              refine J.exit _ rfl ?_
              refine J.seq ?_
              refine J.region ?_
              refine O.p (Pu.fieldAddr (off' := 0) Tryd.runUnderlying29 rfl Tryd.sizeOf9 rfl rfl rfl) rfl ?_
              refine O.q (Qt.ld rfl (Cel.var 1 rfl) (o := 0) (off := 0) rfl (Cut.one Tryd.isAgg9 rfl)) rfl ?_
              refine O.p (Pu.fieldAddr (off' := 1) Tryd.runUnderlying29 rfl Tryd.sizeOf9 rfl rfl rfl) rfl ?_
              refine O.q (Qt.ld rfl (Cel.var 1 rfl) (o := 0) (off := 1) rfl (Cut.one Tryd.isAgg9 rfl)) rfl ?_
              refine O.p (Pu.fieldAddr (off' := 2) Tryd.runUnderlying29 rfl Tryd.sizeOf27 rfl rfl rfl) rfl ?_
              refine O.q (Qt.ld rfl (Cel.var 1 rfl) (o := 0) (off := 2) rfl (Cut.one Tryd.isAgg27 rfl)) rfl ?_
              refine O.l (Lo.call [str text, str word, nv] (by exact Tryd.call8) rfl (cf_Numbers text word nv ns (by omega) (by omega) (fun x h => Nat.le_trans (Cf.all_end (by assumption) (by omega) x h) (by decide))) [] [0, 1] (by decide) rfl [var g1 [.int .i64 x0, .int .i64 x1, .int .i64 x2, .int .i64 x3, .int .i64 x4, .int .i64 x5, .int .i64 x6, .int .i64 x7, .int .i64 x8, .int .i64 x9, .int .i64 x10, .int .i64 x11, .int .i64 x12, cv] 26, var g3 [str text, str word, nv] 29] rfl (RoOk.ro 0 rfl [] rfl (RoOk.ro 3 rfl [] rfl RoOk.nil))) rfl ?_
              rintro _ _ ⟨_, ⟨V34, rfl, rfl⟩, rfl⟩
              refine O.p (Pu.move rfl) rfl ?_
              refine O.p (Pu.extract rfl rfl) rfl ?_
              refine O.p (Pu.extract rfl rfl) rfl ?_
              refine O.p (Pu.assign rfl) rfl ?_
              refine O.p (Pu.assign rfl) rfl ?_
              refine O.nil ?_
              refine J.seq ?_
              refine J.region ?_
              refine O.p (Pu.fieldAddr (off' := 0) Tryd.runUnderlying29 rfl Tryd.sizeOf9 rfl rfl rfl) rfl ?_
              refine O.q (Qt.ld rfl (Cel.var 2 rfl) (o := 0) (off := 0) rfl (Cut.one Tryd.isAgg9 rfl)) rfl ?_
              refine O.p (Pu.fieldAddr (off' := 1) Tryd.runUnderlying29 rfl Tryd.sizeOf9 rfl rfl rfl) rfl ?_
              refine O.q (Qt.ld rfl (Cel.var 2 rfl) (o := 0) (off := 1) rfl (Cut.one Tryd.isAgg9 rfl)) rfl ?_
              refine O.p (Pu.fieldAddr (off' := 2) Tryd.runUnderlying29 rfl Tryd.sizeOf27 rfl rfl rfl) rfl ?_
              refine O.q (Qt.ld rfl (Cel.var 2 rfl) (o := 0) (off := 2) rfl (Cut.one Tryd.isAgg27 rfl)) rfl ?_
              refine O.l (Lo.call [str text, str word, nv] (by exact Tryd.call9) rfl (r28_Numbers text word nv ns (by omega) (by omega) (fun x h => Nat.le_trans (Cf.all_end (by assumption) (by omega) x h) (by decide))) [] [0, 1, 2] (by decide) rfl [row V34 3 1 (((Cf.numbers text word ns).1).map encZ), var g1 [.int .i64 x0, .int .i64 x1, .int .i64 x2, .int .i64 x3, .int .i64 x4, .int .i64 x5, .int .i64 x6, .int .i64 x7, .int .i64 x8, .int .i64 x9, .int .i64 x10, .int .i64 x11, .int .i64 x12, cv] 26, var g3 [str text, str word, nv] 29] rfl (RoOk.ro 3 rfl [] rfl RoOk.nil)) rfl ?_
              rintro _ _ ⟨_, ⟨V36, rfl, rfl⟩, rfl⟩
              refine O.p (Pu.move rfl) rfl ?_
              refine O.p (Pu.extract rfl rfl) rfl ?_
              refine O.p (Pu.extract rfl rfl) rfl ?_
              refine O.p (Pu.assign rfl) rfl ?_
              refine O.p (Pu.assign rfl) rfl ?_
              refine O.nil ?_
              refine J.seq ?_
              refine J.region ?_
              refine O.p (Pu.fieldAddr (off' := 0) Tryd.runUnderlying29 rfl Tryd.sizeOf9 rfl rfl rfl) rfl ?_
              refine O.q (Qt.ld rfl (Cel.var 3 rfl) (o := 0) (off := 0) rfl (Cut.one Tryd.isAgg9 rfl)) rfl ?_
              refine O.l (Lo.call [str text] (by exact Tryd.call10) rfl (cf_Head text (by omega)) [] [0, 1, 2, 3] (by decide) rfl [row V36 3 1 (((Cf.numbers text word ns).1).map encZ), row V34 3 1 (((Cf.numbers text word ns).1).map encZ), var g1 [.int .i64 x0, .int .i64 x1, .int .i64 x2, .int .i64 x3, .int .i64 x4, .int .i64 x5, .int .i64 x6, .int .i64 x7, .int .i64 x8, .int .i64 x9, .int .i64 x10, .int .i64 x11, .int .i64 x12, cv] 26, var g3 [str text, str word, nv] 29] rfl (RoOk.ro 0 rfl [] rfl (RoOk.ro 1 rfl [] rfl RoOk.nil))) rfl ?_
              rintro _ _ ⟨_, ⟨z38, z39, z40, z41, z42, z43, z44, z45, z46, z47, z48, z49, z50, hz51, rfl, rfl⟩, rfl⟩
              refine O.p (Pu.move rfl) rfl ?_
              refine O.p (Pu.extract rfl rfl) rfl ?_
              refine O.p (Pu.extract rfl rfl) rfl ?_
              refine O.l (Lo.alloc [.int .i64 0, .int .i64 0, .int .i64 0, .int .i64 0, .int .i64 0, .int .i64 0, .int .i64 0, .int .i64 0, .int .i64 0, .int .i64 0, .int .i64 0, .int .i64 0, .int .i64 0, Value.slice none 0 0] (by exact Tryd.zeroValue26) rfl) rfl ?_
              rintro _ _ ⟨g53, rfl, rfl⟩
              refine O.l0 (Lo.store 0 (vs := [.int .i64 z38, .int .i64 z39, .int .i64 z40, .int .i64 z41, .int .i64 z42, .int .i64 z43, .int .i64 z44, .int .i64 z45, .int .i64 z46, .int .i64 z47, .int .i64 z48, .int .i64 z49, .int .i64 z50, Value.slice none 0 0]) [.int .i64 z38, .int .i64 z39, .int .i64 z40, .int .i64 z41, .int .i64 z42, .int .i64 z43, .int .i64 z44, .int .i64 z45, .int .i64 z46, .int .i64 z47, .int .i64 z48, .int .i64 z49, .int .i64 z50, Value.slice none 0 0] rfl rfl rfl (by exact Tryd.sizeOf26) rfl rfl rfl rfl rfl) ?_
              rintro _ _ rfl
              refine O.p (Pu.assign rfl) rfl ?_
              refine O.nil ?_
              refine J.seq ?_
              refine J.region ?_
              refine O.p (Pu.fieldAddr (off' := 0) Tryd.runUnderlying29 rfl Tryd.sizeOf9 rfl rfl rfl) rfl ?_
              refine O.q (Qt.ld rfl (Cel.var 4 rfl) (o := 0) (off := 0) rfl (Cut.one Tryd.isAgg9 rfl)) rfl ?_
              refine O.l (Lo.call [str text] (by exact Tryd.call11) rfl (r28_Head text (by omega)) [] [0, 1, 2, 3, 4] (by decide) rfl [var g53 [.int .i64 z38, .int .i64 z39, .int .i64 z40, .int .i64 z41, .int .i64 z42, .int .i64 z43, .int .i64 z44, .int .i64 z45, .int .i64 z46, .int .i64 z47, .int .i64 z48, .int .i64 z49, .int .i64 z50, Value.slice none 0 0] 26, row V36 3 1 (((Cf.numbers text word ns).1).map encZ), row V34 3 1 (((Cf.numbers text word ns).1).map encZ), var g1 [.int .i64 x0, .int .i64 x1, .int .i64 x2, .int .i64 x3, .int .i64 x4, .int .i64 x5, .int .i64 x6, .int .i64 x7, .int .i64 x8, .int .i64 x9, .int .i64 x10, .int .i64 x11, .int .i64 x12, cv] 26, var g3 [str text, str word, nv] 29] rfl RoOk.nil) rfl ?_
              rintro _ _ ⟨_, ⟨z54, z55, z56, z57, z58, z59, z60, z61, z62, z63, z64, z65, z66, hz67, rfl, rfl⟩, rfl⟩
              have hq68 := hz51.symm.trans hz67
              simp only [List.cons.injEq, and_true] at hq68
              obtain ⟨rfl, rfl, rfl, rfl, rfl, rfl, rfl, rfl, rfl, rfl, rfl, rfl, rfl⟩ := hq68
              refine O.p (Pu.move rfl) rfl ?_
              refine O.p (Pu.extract rfl rfl) rfl ?_
              refine O.p (Pu.extract rfl rfl) rfl ?_
              refine O.l (Lo.alloc [.int .i64 0, .int .i64 0, .int .i64 0, .int .i64 0, .int .i64 0, .int .i64 0, .int .i64 0, .int .i64 0, .int .i64 0, .int .i64 0, .int .i64 0, .int .i64 0, .int .i64 0, Value.slice none 0 0] (by exact Tryd.zeroValue26) rfl) rfl ?_
              rintro _ _ ⟨g70, rfl, rfl⟩
              refine O.l0 (Lo.store 0 (vs := [.int .i64 z38, .int .i64 z39, .int .i64 z40, .int .i64 z41, .int .i64 z42, .int .i64 z43, .int .i64 z44, .int .i64 z45, .int .i64 z46, .int .i64 z47, .int .i64 z48, .int .i64 z49, .int .i64 z50, Value.slice none 0 0]) [.int .i64 z38, .int .i64 z39, .int .i64 z40, .int .i64 z41, .int .i64 z42, .int .i64 z43, .int .i64 z44, .int .i64 z45, .int .i64 z46, .int .i64 z47, .int .i64 z48, .int .i64 z49, .int .i64 z50, Value.slice none 0 0] rfl rfl rfl (by exact Tryd.sizeOf26) rfl rfl rfl rfl rfl) ?_
              rintro _ _ rfl
              refine O.p (Pu.assign rfl) rfl ?_
              refine O.nil ?_
              refine J.seq ?_
              refine J.region ?_
              refine O.p (Pu.fieldAddr (off' := 0) Tryd.runUnderlying29 rfl Tryd.sizeOf9 rfl rfl rfl) rfl ?_
              refine O.q (Qt.ld rfl (Cel.var 5 rfl) (o := 0) (off := 0) rfl (Cut.one Tryd.isAgg9 rfl)) rfl ?_
              refine O.l (Lo.call [str text] (by exact Tryd.call12) rfl (cf_Call text (by omega)) [] [0, 1, 2, 3, 4, 5] (by decide) rfl [var g70 [.int .i64 z38, .int .i64 z39, .int .i64 z40, .int .i64 z41, .int .i64 z42, .int .i64 z43, .int .i64 z44, .int .i64 z45, .int .i64 z46, .int .i64 z47, .int .i64 z48, .int .i64 z49, .int .i64 z50, Value.slice none 0 0] 26, var g53 [.int .i64 z38, .int .i64 z39, .int .i64 z40, .int .i64 z41, .int .i64 z42, .int .i64 z43, .int .i64 z44, .int .i64 z45, .int .i64 z46, .int .i64 z47, .int .i64 z48, .int .i64 z49, .int .i64 z50, Value.slice none 0 0] 26, row V36 3 1 (((Cf.numbers text word ns).1).map encZ), row V34 3 1 (((Cf.numbers text word ns).1).map encZ), var g1 [.int .i64 x0, .int .i64 x1, .int .i64 x2, .int .i64 x3, .int .i64 x4, .int .i64 x5, .int .i64 x6, .int .i64 x7, .int .i64 x8, .int .i64 x9, .int .i64 x10, .int .i64 x11, .int .i64 x12, cv] 26, var g3 [str text, str word, nv] 29] rfl (RoOk.ro 0 rfl [] rfl RoOk.nil)) rfl ?_
              rintro _ _ ⟨_, ⟨z71, z72, z73, z74, hz75, rfl, rfl⟩, rfl⟩
              refine O.p (Pu.move rfl) rfl ?_
              refine O.p (Pu.extract rfl rfl) rfl ?_
              refine O.p (Pu.extract rfl rfl) rfl ?_
              refine O.l (Lo.alloc [.int .i64 0, .int .i64 0, .int .i64 0, .int .i64 0] (by exact Tryd.zeroValue38) rfl) rfl ?_
              rintro _ _ ⟨g77, rfl, rfl⟩
              refine O.l0 (Lo.store 0 (vs := [.int .i64 z71, .int .i64 z72, .int .i64 z73, .int .i64 z74]) [.int .i64 z71, .int .i64 z72, .int .i64 z73, .int .i64 z74] rfl rfl rfl (by exact Tryd.sizeOf38) rfl rfl rfl rfl rfl) ?_
              rintro _ _ rfl
              refine O.p (Pu.assign rfl) rfl ?_
              refine O.nil ?_
              refine J.seq ?_
              refine J.region ?_
              refine O.p (Pu.fieldAddr (off' := 0) Tryd.runUnderlying29 rfl Tryd.sizeOf9 rfl rfl rfl) rfl ?_
              refine O.q (Qt.ld rfl (Cel.var 6 rfl) (o := 0) (off := 0) rfl (Cut.one Tryd.isAgg9 rfl)) rfl ?_
              refine O.l (Lo.call [str text] (by exact Tryd.call13) rfl (r28_Call text (by omega)) [] [0, 1, 2, 3, 4, 5, 6] (by decide) rfl [var g77 [.int .i64 z71, .int .i64 z72, .int .i64 z73, .int .i64 z74] 38, var g70 [.int .i64 z38, .int .i64 z39, .int .i64 z40, .int .i64 z41, .int .i64 z42, .int .i64 z43, .int .i64 z44, .int .i64 z45, .int .i64 z46, .int .i64 z47, .int .i64 z48, .int .i64 z49, .int .i64 z50, Value.slice none 0 0] 26, var g53 [.int .i64 z38, .int .i64 z39, .int .i64 z40, .int .i64 z41, .int .i64 z42, .int .i64 z43, .int .i64 z44, .int .i64 z45, .int .i64 z46, .int .i64 z47, .int .i64 z48, .int .i64 z49, .int .i64 z50, Value.slice none 0 0] 26, row V36 3 1 (((Cf.numbers text word ns).1).map encZ), row V34 3 1 (((Cf.numbers text word ns).1).map encZ), var g1 [.int .i64 x0, .int .i64 x1, .int .i64 x2, .int .i64 x3, .int .i64 x4, .int .i64 x5, .int .i64 x6, .int .i64 x7, .int .i64 x8, .int .i64 x9, .int .i64 x10, .int .i64 x11, .int .i64 x12, cv] 26, var g3 [str text, str word, nv] 29] rfl RoOk.nil) rfl ?_
              rintro _ _ ⟨_, ⟨z78, z79, z80, z81, hz82, rfl, rfl⟩, rfl⟩
              have hq83 := hz75.symm.trans hz82
              simp only [List.cons.injEq, and_true] at hq83
              obtain ⟨rfl, rfl, rfl, rfl⟩ := hq83
              refine O.p (Pu.move rfl) rfl ?_
              refine O.p (Pu.extract rfl rfl) rfl ?_
              refine O.p (Pu.extract rfl rfl) rfl ?_
              refine O.l (Lo.alloc [.int .i64 0, .int .i64 0, .int .i64 0, .int .i64 0] (by exact Tryd.zeroValue38) rfl) rfl ?_
              rintro _ _ ⟨g85, rfl, rfl⟩
              refine O.l0 (Lo.store 0 (vs := [.int .i64 z71, .int .i64 z72, .int .i64 z73, .int .i64 z74]) [.int .i64 z71, .int .i64 z72, .int .i64 z73, .int .i64 z74] rfl rfl rfl (by exact Tryd.sizeOf38) rfl rfl rfl rfl rfl) ?_
              rintro _ _ rfl
              refine O.p (Pu.assign rfl) rfl ?_
              refine O.nil ?_
              refine J.seq ?_
              refine J.nilRow 38 4 ?_
              show J _ _ _ [row (Value.slice none 0 0) 38 4 (([] : List Cl).map Cl.cells), var g85 [.int .i64 z71, .int .i64 z72, .int .i64 z73, .int .i64 z74] 38, var g77 [.int .i64 z71, .int .i64 z72, .int .i64 z73, .int .i64 z74] 38, var g70 [.int .i64 z38, .int .i64 z39, .int .i64 z40, .int .i64 z41, .int .i64 z42, .int .i64 z43, .int .i64 z44, .int .i64 z45, .int .i64 z46, .int .i64 z47, .int .i64 z48, .int .i64 z49, .int .i64 z50, Value.slice none 0 0] 26, var g53 [.int .i64 z38, .int .i64 z39, .int .i64 z40, .int .i64 z41, .int .i64 z42, .int .i64 z43, .int .i64 z44, .int .i64 z45, .int .i64 z46, .int .i64 z47, .int .i64 z48, .int .i64 z49, .int .i64 z50, Value.slice none 0 0] 26, row V36 3 1 (((Cf.numbers text word ns).1).map encZ), row V34 3 1 (((Cf.numbers text word ns).1).map encZ), var g1 [.int .i64 x0, .int .i64 x1, .int .i64 x2, .int .i64 x3, .int .i64 x4, .int .i64 x5, .int .i64 x6, .int .i64 x7, .int .i64 x8, .int .i64 x9, .int .i64 x10, .int .i64 x11, .int .i64 x12, cv] 26, var g3 [str text, str word, nv] 29]
              refine J.drawMix [(0, false), (2, false), (1, true), (3, true), (4, false), (5, false), (6, false), (7, false), (8, false), (9, false), (10, false), (11, false), (12, false), (13, false), (14, false), (15, false), (16, false), (17, false), (18, false), (19, false), (20, false), (21, false), (22, false), (23, false), (24, false), (25, false), (26, false), (27, false), (28, false), (29, false), (30, false), (31, false), (32, false), (33, true), (34, false), (35, false), (36, false), (37, false), (38, false), (39, false), (40, false), (41, false), (42, false), (43, false), (44, false), (45, false), (46, false), (47, false), (48, false), (49, false), (50, false), (51, true), (52, false), (53, false)] [1, 2, 3, 4, 5, 6, 7, 8] [var g85 [.int .i64 z71, .int .i64 z72, .int .i64 z73, .int .i64 z74] 38, var g77 [.int .i64 z71, .int .i64 z72, .int .i64 z73, .int .i64 z74] 38, var g70 [.int .i64 z38, .int .i64 z39, .int .i64 z40, .int .i64 z41, .int .i64 z42, .int .i64 z43, .int .i64 z44, .int .i64 z45, .int .i64 z46, .int .i64 z47, .int .i64 z48, .int .i64 z49, .int .i64 z50, Value.slice none 0 0] 26, var g53 [.int .i64 z38, .int .i64 z39, .int .i64 z40, .int .i64 z41, .int .i64 z42, .int .i64 z43, .int .i64 z44, .int .i64 z45, .int .i64 z46, .int .i64 z47, .int .i64 z48, .int .i64 z49, .int .i64 z50, Value.slice none 0 0] 26, row V36 3 1 (((Cf.numbers text word ns).1).map encZ), row V34 3 1 (((Cf.numbers text word ns).1).map encZ), var g1 [.int .i64 x0, .int .i64 x1, .int .i64 x2, .int .i64 x3, .int .i64 x4, .int .i64 x5, .int .i64 x6, .int .i64 x7, .int .i64 x8, .int .i64 x9, .int .i64 x10, .int .i64 x11, .int .i64 x12, cv] 26, var g3 [str text, str word, nv] 29] Tryd.mixed (by kernel_rfl) (by decide) rfl ?_
              refine Mx.q rfl (Qt.ld rfl (Cel.var 6 rfl) (o := 0) (off := 0) rfl (Cut.agg [.int .i64 x0, .int .i64 x1, .int .i64 x2, .int .i64 x3, .int .i64 x4, .int .i64 x5, .int .i64 x6, .int .i64 x7, .int .i64 x8, .int .i64 x9, .int .i64 x10, .int .i64 x11, .int .i64 x12, cv] Tryd.isAgg26 Tryd.sizeOf26 rfl rfl)) rfl ?_
              refine Mx.q rfl (Qt.ld rfl (Cel.var 6 rfl) (o := 0) (off := 0) rfl (Cut.agg [.int .i64 x0, .int .i64 x1, .int .i64 x2, .int .i64 x3, .int .i64 x4, .int .i64 x5, .int .i64 x6, .int .i64 x7, .int .i64 x8, .int .i64 x9, .int .i64 x10, .int .i64 x11, .int .i64 x12, cv] Tryd.isAgg26 Tryd.sizeOf26 rfl rfl)) rfl ?_
              refine Mx.l rfl (Lo.call [.agg #[.int .i64 x0, .int .i64 x1, .int .i64 x2, .int .i64 x3, .int .i64 x4, .int .i64 x5, .int .i64 x6, .int .i64 x7, .int .i64 x8, .int .i64 x9, .int .i64 x10, .int .i64 x11, .int .i64 x12, cv]] (by exact Tryd.call15) rfl (cf_Lines x0 x1 x2 x3 x4 x5 x6 x7 x8 x9 x10 x11 x12 cv cs hI hC (by omega)) [] [0, 1, 2, 3, 4, 5, 6, 7, 8] (by decide) rfl [row (Value.slice none 0 0) 38 4 (([] : List Cl).map Cl.cells), var g85 [.int .i64 z71, .int .i64 z72, .int .i64 z73, .int .i64 z74] 38, var g77 [.int .i64 z71, .int .i64 z72, .int .i64 z73, .int .i64 z74] 38, var g70 [.int .i64 z38, .int .i64 z39, .int .i64 z40, .int .i64 z41, .int .i64 z42, .int .i64 z43, .int .i64 z44, .int .i64 z45, .int .i64 z46, .int .i64 z47, .int .i64 z48, .int .i64 z49, .int .i64 z50, Value.slice none 0 0] 26, var g53 [.int .i64 z38, .int .i64 z39, .int .i64 z40, .int .i64 z41, .int .i64 z42, .int .i64 z43, .int .i64 z44, .int .i64 z45, .int .i64 z46, .int .i64 z47, .int .i64 z48, .int .i64 z49, .int .i64 z50, Value.slice none 0 0] 26, row V36 3 1 (((Cf.numbers text word ns).1).map encZ), row V34 3 1 (((Cf.numbers text word ns).1).map encZ), var g1 [.int .i64 x0, .int .i64 x1, .int .i64 x2, .int .i64 x3, .int .i64 x4, .int .i64 x5, .int .i64 x6, .int .i64 x7, .int .i64 x8, .int .i64 x9, .int .i64 x10, .int .i64 x11, .int .i64 x12, cv] 26, var g3 [str text, str word, nv] 29] rfl (RoOk.ro 0 rfl [] rfl (RoOk.ro 1 rfl [] rfl (RoOk.ro 2 rfl [] rfl RoOk.nil)))) rfl ?_
              rintro v86 _ ⟨_, rfl, rfl⟩
              refine MxK.go [0, 2, 3, 4, 5, 6, 7, 8, 9] [1, 2, 3, 4, 5, 6, 7, 8] [row v86 9 1 ((Cf.lines [x0, x1, x2, x3, x4, x5, x6, x7, x8, x9, x10, x11, x12] cs).map encS), var g85 [.int .i64 z71, .int .i64 z72, .int .i64 z73, .int .i64 z74] 38, var g77 [.int .i64 z71, .int .i64 z72, .int .i64 z73, .int .i64 z74] 38, var g70 [.int .i64 z38, .int .i64 z39, .int .i64 z40, .int .i64 z41, .int .i64 z42, .int .i64 z43, .int .i64 z44, .int .i64 z45, .int .i64 z46, .int .i64 z47, .int .i64 z48, .int .i64 z49, .int .i64 z50, Value.slice none 0 0] 26, var g53 [.int .i64 z38, .int .i64 z39, .int .i64 z40, .int .i64 z41, .int .i64 z42, .int .i64 z43, .int .i64 z44, .int .i64 z45, .int .i64 z46, .int .i64 z47, .int .i64 z48, .int .i64 z49, .int .i64 z50, Value.slice none 0 0] 26, row V36 3 1 (((Cf.numbers text word ns).1).map encZ), row V34 3 1 (((Cf.numbers text word ns).1).map encZ), var g1 [.int .i64 x0, .int .i64 x1, .int .i64 x2, .int .i64 x3, .int .i64 x4, .int .i64 x5, .int .i64 x6, .int .i64 x7, .int .i64 x8, .int .i64 x9, .int .i64 x10, .int .i64 x11, .int .i64 x12, cv] 26, var g3 [str text, str word, nv] 29] (by decide) rfl (by decide) rfl ?_
              refine Mx.l rfl (Lo.call [.agg #[.int .i64 x0, .int .i64 x1, .int .i64 x2, .int .i64 x3, .int .i64 x4, .int .i64 x5, .int .i64 x6, .int .i64 x7, .int .i64 x8, .int .i64 x9, .int .i64 x10, .int .i64 x11, .int .i64 x12, cv]] (by exact Tryd.call16) rfl (r28_Lines x0 x1 x2 x3 x4 x5 x6 x7 x8 x9 x10 x11 x12 cv cs hI hC (by omega)) [] [0, 1, 2, 3, 4, 5, 6, 7, 8, 9] (by decide) rfl [row v86 9 1 ((Cf.lines [x0, x1, x2, x3, x4, x5, x6, x7, x8, x9, x10, x11, x12] cs).map encS), row (Value.slice none 0 0) 38 4 (([] : List Cl).map Cl.cells), var g85 [.int .i64 z71, .int .i64 z72, .int .i64 z73, .int .i64 z74] 38, var g77 [.int .i64 z71, .int .i64 z72, .int .i64 z73, .int .i64 z74] 38, var g70 [.int .i64 z38, .int .i64 z39, .int .i64 z40, .int .i64 z41, .int .i64 z42, .int .i64 z43, .int .i64 z44, .int .i64 z45, .int .i64 z46, .int .i64 z47, .int .i64 z48, .int .i64 z49, .int .i64 z50, Value.slice none 0 0] 26, var g53 [.int .i64 z38, .int .i64 z39, .int .i64 z40, .int .i64 z41, .int .i64 z42, .int .i64 z43, .int .i64 z44, .int .i64 z45, .int .i64 z46, .int .i64 z47, .int .i64 z48, .int .i64 z49, .int .i64 z50, Value.slice none 0 0] 26, row V36 3 1 (((Cf.numbers text word ns).1).map encZ), row V34 3 1 (((Cf.numbers text word ns).1).map encZ), var g1 [.int .i64 x0, .int .i64 x1, .int .i64 x2, .int .i64 x3, .int .i64 x4, .int .i64 x5, .int .i64 x6, .int .i64 x7, .int .i64 x8, .int .i64 x9, .int .i64 x10, .int .i64 x11, .int .i64 x12, cv] 26, var g3 [str text, str word, nv] 29] rfl (RoOk.ro 2 rfl [] rfl RoOk.nil)) rfl ?_
              rintro v87 _ ⟨_, rfl, rfl⟩
              refine MxK.all [0, 1, 3, 4, 5, 6, 7, 8, 9, 10] [row v87 9 1 ((Cf.lines [x0, x1, x2, x3, x4, x5, x6, x7, x8, x9, x10, x11, x12] cs).map encS), row v86 9 1 ((Cf.lines [x0, x1, x2, x3, x4, x5, x6, x7, x8, x9, x10, x11, x12] cs).map encS), var g85 [.int .i64 z71, .int .i64 z72, .int .i64 z73, .int .i64 z74] 38, var g77 [.int .i64 z71, .int .i64 z72, .int .i64 z73, .int .i64 z74] 38, var g70 [.int .i64 z38, .int .i64 z39, .int .i64 z40, .int .i64 z41, .int .i64 z42, .int .i64 z43, .int .i64 z44, .int .i64 z45, .int .i64 z46, .int .i64 z47, .int .i64 z48, .int .i64 z49, .int .i64 z50, Value.slice none 0 0] 26, var g53 [.int .i64 z38, .int .i64 z39, .int .i64 z40, .int .i64 z41, .int .i64 z42, .int .i64 z43, .int .i64 z44, .int .i64 z45, .int .i64 z46, .int .i64 z47, .int .i64 z48, .int .i64 z49, .int .i64 z50, Value.slice none 0 0] 26, row V36 3 1 (((Cf.numbers text word ns).1).map encZ), row V34 3 1 (((Cf.numbers text word ns).1).map encZ), var g1 [.int .i64 x0, .int .i64 x1, .int .i64 x2, .int .i64 x3, .int .i64 x4, .int .i64 x5, .int .i64 x6, .int .i64 x7, .int .i64 x8, .int .i64 x9, .int .i64 x10, .int .i64 x11, .int .i64 x12, cv] 26, var g3 [str text, str word, nv] 29] (by decide) rfl (by kernel_rfl) ?_
              refine Mx.call (vs := [v86, v87]) (caps := []) rfl (by exact Tryd.call14) rfl rfl (r06_Same v86 v87 (Cf.lines [x0, x1, x2, x3, x4, x5, x6, x7, x8, x9, x10, x11, x12] cs) (by first | omega | (rw [Cf.lines_len]; omega) | (have h_ := Cf.numbers_le (line := text) (word := word) (ns := ns); omega))) (fun _ _ h => h) (RoOk.of 1 rfl row_rd [] (by decide) rfl (RoOk.of 0 rfl row_rd [] (by decide) rfl RoOk.nil)) rfl ?_
              refine Mx.p rfl (Pu.move rfl) rfl ?_
              refine Mx.gq (t := 112) rfl rfl rfl rfl rfl (Pu.qt (Pu.fieldAddr (off' := 1) Tryd.runUnderlying29 rfl Tryd.sizeOf9 rfl rfl rfl)) rfl ?_
              refine Mx.gq (t := 112) rfl rfl rfl rfl rfl (Qt.ld rfl (Cel.var 9 rfl) (o := 0) (off := 1) rfl (Cut.one Tryd.isAgg9 rfl)) rfl ?_
              refine Mx.gq (t := 112) rfl rfl rfl rfl rfl (Pu.qt (Pu.fieldAddr (off' := 2) Tryd.runUnderlying29 rfl Tryd.sizeOf27 rfl rfl rfl)) rfl ?_
              refine Mx.gq (t := 112) rfl rfl rfl rfl rfl (Qt.ld rfl (Cel.var 9 rfl) (o := 0) (off := 2) rfl (Cut.one Tryd.isAgg27 rfl)) rfl ?_
              refine Mx.gq (t := 112) rfl rfl rfl rfl rfl (Pu.qt (Pu.move rfl)) rfl ?_
              refine Mx.gcall (vs := [str word, nv, zv]) (caps := []) (t := 112) rfl rfl rfl rfl rfl (by exact Tryd.call17) rfl rfl (cf_Row word nv ns zv zs (by omega) (fun x h => Nat.le_trans (Cf.all_end (by assumption) (by omega) x h) (by decide)) (by omega) (by omega) hz) (fun _ _ h => h) (RoOk.ro 0 rfl [] rfl (RoOk.ro 3 rfl [] rfl (RoOk.ro 4 rfl [] rfl RoOk.nil))) rfl ?_
              refine Mx.gq (t := 112) rfl rfl rfl rfl rfl (Pu.qt (Pu.fieldAddr (off' := 1) Tryd.runUnderlying29 rfl Tryd.sizeOf9 rfl rfl rfl)) rfl ?_
              refine Mx.gq (t := 112) rfl rfl rfl rfl rfl (Qt.ld rfl (Cel.var 9 rfl) (o := 0) (off := 1) rfl (Cut.one Tryd.isAgg9 rfl)) rfl ?_
              refine Mx.gq (t := 112) rfl rfl rfl rfl rfl (Pu.qt (Pu.fieldAddr (off' := 2) Tryd.runUnderlying29 rfl Tryd.sizeOf27 rfl rfl rfl)) rfl ?_
              refine Mx.gq (t := 112) rfl rfl rfl rfl rfl (Qt.ld rfl (Cel.var 9 rfl) (o := 0) (off := 2) rfl (Cut.one Tryd.isAgg27 rfl)) rfl ?_
              refine Mx.gq (t := 112) rfl rfl rfl rfl rfl (Pu.qt (Pu.move rfl)) rfl ?_
              refine Mx.gcall (vs := [str word, nv, zv]) (caps := []) (t := 112) rfl rfl rfl rfl rfl (by exact Tryd.call18) rfl rfl (r28_Row word nv ns zv zs (by omega) (fun x h => Nat.le_trans (Cf.all_end (by assumption) (by omega) x h) (by decide)) (by omega) (by omega) hz) (fun _ _ h => h) (RoOk.ro 3 rfl [] rfl (RoOk.ro 4 rfl [] rfl RoOk.nil)) rfl ?_
              refine Mx.gq (t := 112) rfl rfl rfl rfl rfl (Pu.qt (Pu.sEql rfl rfl)) rfl ?_
              refine Mx.p rfl (Pu.pickT rfl rfl rfl) rfl ?_
              refine Mx.p rfl (Pu.move rfl) rfl ?_
              refine Mx.gq (t := 127) rfl rfl rfl (by simp) rfl (Pu.qt (Pu.move rfl)) rfl ?_
              refine Mx.gq (t := 127) rfl rfl rfl (by simp) rfl (Pu.qt (Pu.move rfl)) rfl ?_
              refine Mx.gcall (vs := [V34, V36]) (caps := []) (t := 127) rfl rfl rfl (by simp) rfl (by exact Tryd.call19) rfl rfl (r01_Same V34 V36 ((Cf.numbers text word ns).1) (by first | omega | (rw [Cf.lines_len]; omega) | (have h_ := Cf.numbers_le (line := text) (word := word) (ns := ns); omega))) (fun _ _ h => h) (RoOk.of 7 rfl row_rd [] (by decide) rfl (RoOk.of 6 rfl row_rd [] (by decide) rfl RoOk.nil)) rfl ?_
              refine Mx.p rfl (Pu.pickT rfl (by simp) rfl) rfl ?_
              refine Mx.p rfl (Pu.move rfl) rfl ?_
              refine Mx.gq (t := 132) rfl rfl rfl rfl rfl (Pu.qt (Pu.move rfl)) rfl ?_
              refine Mx.gq (t := 132) rfl rfl rfl rfl rfl (Pu.qt (Pu.move rfl)) rfl ?_
              refine Mx.gq (t := 132) rfl rfl rfl rfl rfl (Pu.qt (Pu.beql Tryd.underlying4 rfl rfl)) rfl ?_
              refine Mx.p rfl (Pu.pickT rfl rfl rfl) rfl ?_
              refine Mx.p rfl (Pu.move rfl) rfl ?_
              refine Mx.gq (t := 137) rfl rfl rfl (by simp) rfl (Qt.ld rfl (Cel.var 5 rfl) (o := 0) (off := 0) rfl (Cut.agg [.int .i64 z38, .int .i64 z39, .int .i64 z40, .int .i64 z41, .int .i64 z42, .int .i64 z43, .int .i64 z44, .int .i64 z45, .int .i64 z46, .int .i64 z47, .int .i64 z48, .int .i64 z49, .int .i64 z50, Value.slice none 0 0] Tryd.isAgg26 Tryd.sizeOf26 rfl rfl)) rfl ?_
              refine Mx.gq (t := 137) rfl rfl rfl (by simp) rfl (Qt.ld rfl (Cel.var 4 rfl) (o := 0) (off := 0) rfl (Cut.agg [.int .i64 z38, .int .i64 z39, .int .i64 z40, .int .i64 z41, .int .i64 z42, .int .i64 z43, .int .i64 z44, .int .i64 z45, .int .i64 z46, .int .i64 z47, .int .i64 z48, .int .i64 z49, .int .i64 z50, Value.slice none 0 0] Tryd.isAgg26 Tryd.sizeOf26 rfl rfl)) rfl ?_
              refine Mx.gl (t := 137) rfl rfl rfl (by simp) rfl (Lo.call [.agg #[.int .i64 z38, .int .i64 z39, .int .i64 z40, .int .i64 z41, .int .i64 z42, .int .i64 z43, .int .i64 z44, .int .i64 z45, .int .i64 z46, .int .i64 z47, .int .i64 z48, .int .i64 z49, .int .i64 z50, Value.slice none 0 0], .agg #[.int .i64 z38, .int .i64 z39, .int .i64 z40, .int .i64 z41, .int .i64 z42, .int .i64 z43, .int .i64 z44, .int .i64 z45, .int .i64 z46, .int .i64 z47, .int .i64 z48, .int .i64 z49, .int .i64 z50, Value.slice none 0 0]] (by exact Tryd.call20) rfl (r28_Same z38 z39 z40 z41 z42 z43 z44 z45 z46 z47 z48 z49 z50 z38 z39 z40 z41 z42 z43 z44 z45 z46 z47 z48 z49 z50 (Value.slice none 0 0) (Value.slice none 0 0) ([] : List Cl) ([] : List Cl) (by first | omega | decide) (by first | omega | decide)) [] [0, 1, 2, 3, 4, 5, 6, 7, 8, 9, 10] (by decide) rfl [row v87 9 1 ((Cf.lines [x0, x1, x2, x3, x4, x5, x6, x7, x8, x9, x10, x11, x12] cs).map encS), row v86 9 1 ((Cf.lines [x0, x1, x2, x3, x4, x5, x6, x7, x8, x9, x10, x11, x12] cs).map encS), row (Value.slice none 0 0) 38 4 (([] : List Cl).map Cl.cells), var g85 [.int .i64 z71, .int .i64 z72, .int .i64 z73, .int .i64 z74] 38, var g77 [.int .i64 z71, .int .i64 z72, .int .i64 z73, .int .i64 z74] 38, var g70 [.int .i64 z38, .int .i64 z39, .int .i64 z40, .int .i64 z41, .int .i64 z42, .int .i64 z43, .int .i64 z44, .int .i64 z45, .int .i64 z46, .int .i64 z47, .int .i64 z48, .int .i64 z49, .int .i64 z50, Value.slice none 0 0] 26, var g53 [.int .i64 z38, .int .i64 z39, .int .i64 z40, .int .i64 z41, .int .i64 z42, .int .i64 z43, .int .i64 z44, .int .i64 z45, .int .i64 z46, .int .i64 z47, .int .i64 z48, .int .i64 z49, .int .i64 z50, Value.slice none 0 0] 26, row V36 3 1 (((Cf.numbers text word ns).1).map encZ), row V34 3 1 (((Cf.numbers text word ns).1).map encZ), var g1 [.int .i64 x0, .int .i64 x1, .int .i64 x2, .int .i64 x3, .int .i64 x4, .int .i64 x5, .int .i64 x6, .int .i64 x7, .int .i64 x8, .int .i64 x9, .int .i64 x10, .int .i64 x11, .int .i64 x12, cv] 26, var g3 [str text, str word, nv] 29] rfl (RoOk.of 2 rfl row_rd [] (by decide) rfl (RoOk.of 2 rfl row_rd [] (by decide) rfl RoOk.nil))) rfl ?_
              rintro _ _ ⟨_, ⟨rfl, rfl⟩, rfl⟩
              refine MxK.go [0, 1, 3, 4, 5, 6, 7, 8, 9, 10] [0, 1, 2, 3, 4, 5, 6, 7, 8, 9] [row v87 9 1 ((Cf.lines [x0, x1, x2, x3, x4, x5, x6, x7, x8, x9, x10, x11, x12] cs).map encS), row v86 9 1 ((Cf.lines [x0, x1, x2, x3, x4, x5, x6, x7, x8, x9, x10, x11, x12] cs).map encS), var g85 [.int .i64 z71, .int .i64 z72, .int .i64 z73, .int .i64 z74] 38, var g77 [.int .i64 z71, .int .i64 z72, .int .i64 z73, .int .i64 z74] 38, var g70 [.int .i64 z38, .int .i64 z39, .int .i64 z40, .int .i64 z41, .int .i64 z42, .int .i64 z43, .int .i64 z44, .int .i64 z45, .int .i64 z46, .int .i64 z47, .int .i64 z48, .int .i64 z49, .int .i64 z50, Value.slice none 0 0] 26, var g53 [.int .i64 z38, .int .i64 z39, .int .i64 z40, .int .i64 z41, .int .i64 z42, .int .i64 z43, .int .i64 z44, .int .i64 z45, .int .i64 z46, .int .i64 z47, .int .i64 z48, .int .i64 z49, .int .i64 z50, Value.slice none 0 0] 26, row V36 3 1 (((Cf.numbers text word ns).1).map encZ), row V34 3 1 (((Cf.numbers text word ns).1).map encZ), var g1 [.int .i64 x0, .int .i64 x1, .int .i64 x2, .int .i64 x3, .int .i64 x4, .int .i64 x5, .int .i64 x6, .int .i64 x7, .int .i64 x8, .int .i64 x9, .int .i64 x10, .int .i64 x11, .int .i64 x12, cv] 26, var g3 [str text, str word, nv] 29] (by decide) rfl (by decide) rfl ?_
              refine Mx.p rfl (Pu.pickT rfl (by simp) rfl) rfl ?_
              refine Mx.p rfl (Pu.move rfl) rfl ?_
              refine Mx.gq (t := 142) rfl rfl rfl (by rw [Cf.sameI_self, Cf.sameC_self]; rfl) rfl (Pu.qt (Pu.move rfl)) rfl ?_
              refine Mx.gq (t := 142) rfl rfl rfl (by rw [Cf.sameI_self, Cf.sameC_self]; rfl) rfl (Pu.qt (Pu.move rfl)) rfl ?_
              refine Mx.gq (t := 142) rfl rfl rfl (by rw [Cf.sameI_self, Cf.sameC_self]; rfl) rfl (Pu.qt (Pu.beql Tryd.underlying4 rfl rfl)) rfl ?_
              refine Mx.p rfl (Pu.pickT rfl (by rw [Cf.sameI_self, Cf.sameC_self]; rfl) rfl) rfl ?_
              refine Mx.p rfl (Pu.move rfl) rfl ?_
              refine Mx.gq (t := 147) rfl rfl rfl (by simp) rfl (Qt.ld rfl (Cel.var 3 rfl) (o := 0) (off := 0) rfl (Cut.agg [.int .i64 z71, .int .i64 z72, .int .i64 z73, .int .i64 z74] Tryd.isAgg38 Tryd.sizeOf38 rfl rfl)) rfl ?_
              refine Mx.gq (t := 147) rfl rfl rfl (by simp) rfl (Qt.ld rfl (Cel.var 2 rfl) (o := 0) (off := 0) rfl (Cut.agg [.int .i64 z71, .int .i64 z72, .int .i64 z73, .int .i64 z74] Tryd.isAgg38 Tryd.sizeOf38 rfl rfl)) rfl ?_
              refine Mx.gq (t := 147) rfl rfl rfl (by simp) rfl (Pu.qt (Pu.eqlI [z71, z72, z73, z74] [z71, z72, z73, z74] Tryd.underlying38 Tryd.stoodInHeld38 Tryd.eqGuardType38 (fint38 Tryd.underlying38) rfl rfl rfl rfl)) rfl ?_
              refine Mx.p rfl (Pu.pickT rfl (by simp) rfl) rfl ?_
              refine Mx.p rfl (Pu.move rfl) rfl ?_
              refine Mx.gq (t := 152) rfl rfl rfl (by simp) rfl (Pu.qt (Pu.move rfl)) rfl ?_
              refine Mx.gq (t := 152) rfl rfl rfl (by simp) rfl (Pu.qt (Pu.move rfl)) rfl ?_
              refine Mx.gq (t := 152) rfl rfl rfl (by simp) rfl (Pu.qt (Pu.beql Tryd.underlying4 rfl rfl)) rfl ?_
              refine Mx.p rfl (Pu.pickT rfl (by simp) rfl) rfl ?_
              refine Mx.p rfl (Pu.move rfl) rfl ?_
              refine Mx.gl (t := 157) rfl rfl rfl (by simp) rfl (Lo.call [] (by exact Tryd.call7) rfl law28_awake [] [0, 1, 2, 3, 4, 5, 6, 7, 8, 9, 10] (by decide) rfl [row v87 9 1 ((Cf.lines [x0, x1, x2, x3, x4, x5, x6, x7, x8, x9, x10, x11, x12] cs).map encS), row v86 9 1 ((Cf.lines [x0, x1, x2, x3, x4, x5, x6, x7, x8, x9, x10, x11, x12] cs).map encS), row (Value.slice none 0 0) 38 4 (([] : List Cl).map Cl.cells), var g85 [.int .i64 z71, .int .i64 z72, .int .i64 z73, .int .i64 z74] 38, var g77 [.int .i64 z71, .int .i64 z72, .int .i64 z73, .int .i64 z74] 38, var g70 [.int .i64 z38, .int .i64 z39, .int .i64 z40, .int .i64 z41, .int .i64 z42, .int .i64 z43, .int .i64 z44, .int .i64 z45, .int .i64 z46, .int .i64 z47, .int .i64 z48, .int .i64 z49, .int .i64 z50, Value.slice none 0 0] 26, var g53 [.int .i64 z38, .int .i64 z39, .int .i64 z40, .int .i64 z41, .int .i64 z42, .int .i64 z43, .int .i64 z44, .int .i64 z45, .int .i64 z46, .int .i64 z47, .int .i64 z48, .int .i64 z49, .int .i64 z50, Value.slice none 0 0] 26, row V36 3 1 (((Cf.numbers text word ns).1).map encZ), row V34 3 1 (((Cf.numbers text word ns).1).map encZ), var g1 [.int .i64 x0, .int .i64 x1, .int .i64 x2, .int .i64 x3, .int .i64 x4, .int .i64 x5, .int .i64 x6, .int .i64 x7, .int .i64 x8, .int .i64 x9, .int .i64 x10, .int .i64 x11, .int .i64 x12, cv] 26, var g3 [str text, str word, nv] 29] rfl (RoOk.ro 0 rfl [] rfl (RoOk.ro 1 rfl [] rfl RoOk.nil))) rfl ?_
              rintro _ _ ⟨_, ⟨rfl, rfl⟩, rfl⟩
              refine MxK.go [0, 1, 3, 4, 5, 6, 7, 8, 9, 10] [0, 1, 2, 3, 4, 5, 6, 7, 8, 9] [row v87 9 1 ((Cf.lines [x0, x1, x2, x3, x4, x5, x6, x7, x8, x9, x10, x11, x12] cs).map encS), row v86 9 1 ((Cf.lines [x0, x1, x2, x3, x4, x5, x6, x7, x8, x9, x10, x11, x12] cs).map encS), var g85 [.int .i64 z71, .int .i64 z72, .int .i64 z73, .int .i64 z74] 38, var g77 [.int .i64 z71, .int .i64 z72, .int .i64 z73, .int .i64 z74] 38, var g70 [.int .i64 z38, .int .i64 z39, .int .i64 z40, .int .i64 z41, .int .i64 z42, .int .i64 z43, .int .i64 z44, .int .i64 z45, .int .i64 z46, .int .i64 z47, .int .i64 z48, .int .i64 z49, .int .i64 z50, Value.slice none 0 0] 26, var g53 [.int .i64 z38, .int .i64 z39, .int .i64 z40, .int .i64 z41, .int .i64 z42, .int .i64 z43, .int .i64 z44, .int .i64 z45, .int .i64 z46, .int .i64 z47, .int .i64 z48, .int .i64 z49, .int .i64 z50, Value.slice none 0 0] 26, row V36 3 1 (((Cf.numbers text word ns).1).map encZ), row V34 3 1 (((Cf.numbers text word ns).1).map encZ), var g1 [.int .i64 x0, .int .i64 x1, .int .i64 x2, .int .i64 x3, .int .i64 x4, .int .i64 x5, .int .i64 x6, .int .i64 x7, .int .i64 x8, .int .i64 x9, .int .i64 x10, .int .i64 x11, .int .i64 x12, cv] 26, var g3 [str text, str word, nv] 29] (by decide) rfl (by decide) rfl ?_
              refine Mx.p rfl (Pu.pickT rfl (by simp) rfl) rfl ?_
              refine Mx.p rfl (Pu.assign rfl) rfl ?_
              refine Mx.nil ?_
              exact J.ret (Fin.ret (rs := [.tmp 6]) rfl [_] ⟨rfl, trivial⟩ [] (by decide) [] rfl ⟨rfl, rfl⟩)

end Go.Proofs.YtilcmkegbmppnaaDoor
