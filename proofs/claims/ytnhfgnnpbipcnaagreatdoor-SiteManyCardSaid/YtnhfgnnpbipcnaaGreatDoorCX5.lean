/-
  Walks, printed by a program of mine (lk.py): each function meets its contract.
-/
import Derived.KernelRfl
import Derived.Test.YtnhfgnnpbipcnaaGreatDoorCX4
namespace Go.Proofs.YtnhfgnnpbipcnaaGreatDoor
open Go Go.LK Go.Proofs.Tryz
set_option linter.unusedSimpArgs false

set_option maxRecDepth 100000 in
theorem r28_SameCalls (av bv : Value) (l m : List Cl) (hl : l.length ≤ 100000) (_hm : m.length ≤ 100000) : Tri prog 56 #[av, bv] [rd av 4 (l.map Cl.cells), rd bv 4 (m.map Cl.cells)] [] (fun v L' => v = .bool (Cf.sameC l m) ∧ L' = []) := by
 refine Tri.enter (args := [av, bv]) (body := _) 32 func56 rfl ntmps56 rfl ?_
 intro w0
 refine J.seq <| J.region <| O.a rfl rfl <| O.nil <| J.seq <| J.seq <| J.region <| O.m rfl rfl <| O.q (Qt.lenM runUnderlying45 rfl (Src.ro 0 rfl)) rfl <| O.m rfl rfl <| O.q (Qt.lenM runUnderlying45 rfl (Src.ro 1 rfl)) rfl <| O.p (Pu.neq rfl rfl) rfl ?_
 refine O.nil ?_
 refine J.cond rfl (fun h1 => ?_) (fun h1 => ?_)
 ·
  have p2 := of_decide_eq_true h1
  refine J.seq <| J.region <| O.a rfl rfl <| O.nil ?_
  exact J.ret (Fin.ret (rs := [.tmp 4]) rfl [_] ⟨rfl, trivial⟩ [] (by decide) [] rfl ⟨(by rw [show Cf.sameC l m = false from decide_eq_false (Cf.eqP_len (by omega))]; rfl), rfl⟩)
 ·
  have p3 := of_decide_eq_false h1
  refine J.skip <| J.seq <| J.seq <| J.region <| O.a rfl rfl <| O.nil <| J.block <| J.loop (X := Nat) (fun ξ => ξ ≤ l.length ∧ (l.take ξ).map Cf.clL = (m.take ξ).map Cf.clL) (fun ξ => [(0, av), (1, bv), (5, .int .i64 (ξ : Int))]) (fun ξ => []) (fun ξ => l.length - ξ) 0 (show 0 ≤ l.length ∧ (l.take 0).map Cf.clL = (m.take 0).map Cf.clL from ⟨by omega, rfl⟩) ⟨rfl, rfl, (congrArg (fun z => some (Value.int .i64 z)) (by first | rfl | omega : (0 : Int) = (0 : Int))), trivial⟩ [] (by decide) rfl ?_
  rintro k hq4
  obtain ⟨hk, hst⟩ : k ≤ l.length ∧ (l.take k).map Cf.clL = (m.take k).map Cf.clL := hq4
  show J _ _ [(0, av), (1, bv), (5, .int .i64 (k : Int))] []
  refine J.seq <| J.seq <| J.region <| O.m rfl rfl <| O.m rfl rfl <| O.q (Qt.lenM runUnderlying45 rfl (Src.ro 0 rfl)) rfl <| O.p (Pu.lss rfl rfl) rfl <| O.m rfl rfl ?_
  refine by_bool (decide ((k : Int) < (l.length : Int))) (fun h5 => ?_) (fun h5 => ?_)
  ·
   have p6 := of_decide_eq_true h5
   refine O.gq (t := 15) rfl rfl h5 rfl (Pu.qt (Pu.move rfl)) rfl <| O.gq (t := 15) rfl rfl h5 rfl (Pu.qt (Pu.move rfl)) rfl <| O.gq (t := 15) rfl rfl h5 rfl (Qt.lenM runUnderlying45 rfl (Src.ro 1 rfl)) rfl <| O.gq (t := 15) rfl rfl h5 rfl (Pu.qt (Pu.lss rfl rfl)) rfl <| O.p (Pu.pickT rfl h5 rfl) rfl <| O.nil ?_
   refine J.cond rfl (fun h7 => ?_) (fun h7 => ?_)
   ·
    have p8 := of_decide_eq_true h7
    refine J.skip <| J.seq <| J.block <| J.seq <| J.drawStill Tryz.mixed (by kernel_rfl) <| S.m rfl rfl <| S.m rfl rfl ?_
    obtain ⟨e9, he9⟩ : ∃ x_, l[k]? = some x_ := ⟨_, List.getElem?_eq_getElem (by first | omega | (simp only [List.length_append, List.length_cons, List.length_nil, List.length_set]; omega))⟩
    refine S.q (Qt.idxM runUnderlying45 sizeOf50 rfl (Src.ro 0 rfl) rfl (by first | omega | (simp only [List.length_append, List.length_cons, List.length_nil, List.length_set]; omega)) (by first | omega | (simp only [List.length_append, List.length_cons, List.length_nil, List.length_set]; omega))) rfl <| S.q (Qt.ld rfl (Cel.eltM (Src.ro 0 rfl) he9) (o := (voff av + k * 4)) (off := 0) (by omega) (Cut.agg [.int .i64 e9.to, .int .i64 e9.tier, .int .i64 e9.weight, .int .i64 e9.most] isAgg50 sizeOf50 rfl rfl)) rfl <| S.m rfl rfl <| S.m rfl rfl ?_
    obtain ⟨e10, he10⟩ : ∃ x_, m[k]? = some x_ := ⟨_, List.getElem?_eq_getElem (by first | omega | (simp only [List.length_append, List.length_cons, List.length_nil, List.length_set]; omega))⟩
    refine S.q (Qt.idxM runUnderlying45 sizeOf50 rfl (Src.ro 1 rfl) rfl (by first | omega | (simp only [List.length_append, List.length_cons, List.length_nil, List.length_set]; omega)) (by first | omega | (simp only [List.length_append, List.length_cons, List.length_nil, List.length_set]; omega))) rfl <| S.q (Qt.ld rfl (Cel.eltM (Src.ro 1 rfl) he10) (o := (voff bv + k * 4)) (off := 0) (by omega) (Cut.agg [.int .i64 e10.to, .int .i64 e10.tier, .int .i64 e10.weight, .int .i64 e10.most] isAgg50 sizeOf50 rfl rfl)) rfl <| S.p (Pu.neqI [e9.to, e9.tier, e9.weight, e9.most] [e10.to, e10.tier, e10.weight, e10.most] underlying50 stoodInHeld50 eqGuardType50 (fint50 underlying50) rfl rfl rfl rfl) rfl <| S.endJ ?_
    refine J.cond rfl (fun h11 => ?_) (fun h11 => ?_)
    ·
     have h12 : (decide (([e9.to, e9.tier, e9.weight, e9.most] : List Int) = [e10.to, e10.tier, e10.weight, e10.most])) = false := not_flip h11
     have p13 := of_decide_eq_false h12
     refine J.seq <| J.region <| O.a rfl rfl <| O.nil ?_
     exact J.ret (Fin.ret (rs := [.tmp 4]) rfl [_] ⟨rfl, trivial⟩ [] (by decide) [] rfl ⟨(by rw [show Cf.sameC l m = false from decide_eq_false (Cf.eqP_bad (f := Cf.clL) he9 he10 (by first | (simp only [Cf.one, Cf.clL, List.cons.injEq, and_true] at *; simp_all; done) | (simp only [Cf.clL] at *; simp_all; done)))]; rfl), rfl⟩)
    ·
     have h14 : (decide (([e9.to, e9.tier, e9.weight, e9.most] : List Int) = [e10.to, e10.tier, e10.weight, e10.most])) = true := not_flip h11
     have p15 := of_decide_eq_true h14
     refine J.skip <| J.blk <| J.region <| O.m rfl rfl <| O.p (Pu.add' rfl rfl (by first | omega | (simp only [List.length_append, List.length_cons, List.length_nil, List.length_set]; omega))) rfl <| O.a rfl rfl <| O.nil ?_
     exact J.lp (k + 1) (show (k + 1) ≤ l.length ∧ (l.take (k + 1)).map Cf.clL = (m.take (k + 1)).map Cf.clL from ⟨by omega, Cf.eqP_next hst he9 he10 (by first | (simp only [Cf.one, Cf.clL, List.cons.injEq, and_true] at *; simp_all; done) | (simp only [Cf.clL] at *; simp_all; done))⟩) (show l.length - (k + 1) < l.length - k from (by first | omega | (simp only [List.length_append, List.length_cons, List.length_nil, List.length_set]; omega))) ⟨rfl, rfl, (congrArg (fun z => some (Value.int .i64 z)) (by first | rfl | omega : ((k : Int) + 1 : Int) = ((k + 1) : Int))), trivial⟩ [] (by decide) rfl
   ·
    have p16 := of_decide_eq_false h7
    refine J.exit _ rfl <| J.seq <| J.region <| O.a rfl rfl <| O.nil ?_
    exact J.ret (Fin.ret (rs := [.tmp 4]) rfl [_] ⟨rfl, trivial⟩ [] (by decide) [] rfl ⟨(by rw [show Cf.sameC l m = true from decide_eq_true (Cf.eqP_all hst (by omega) (by omega))]; rfl), rfl⟩)
  ·
   have p17 := of_decide_eq_false h5
   refine O.gskip (t := 15) rfl rfl (no_bool (by rw [h5]; decide)) rfl rfl <| O.gskip (t := 15) rfl rfl (no_bool (by rw [h5]; decide)) rfl rfl <| O.gskip (t := 15) rfl rfl (no_bool (by rw [h5]; decide)) rfl rfl <| O.gskip (t := 15) rfl rfl (no_bool (by rw [h5]; decide)) rfl rfl <| O.p (Pu.pickF rfl h5 rfl) rfl <| O.nil <| J.condF rfl rfl <| J.exit _ rfl <| J.seq <| J.region <| O.a rfl rfl <| O.nil ?_
   exact J.ret (Fin.ret (rs := [.tmp 4]) rfl [_] ⟨rfl, trivial⟩ [] (by decide) [] rfl ⟨(by rw [show Cf.sameC l m = true from decide_eq_true (Cf.eqP_all hst (by omega) (by omega))]; rfl), rfl⟩)

set_option maxRecDepth 100000 in
set_option maxHeartbeats 1000000 in
theorem r28_Same (x0 x1 x2 x3 x4 x5 x6 x7 x8 x9 x10 x11 x12 : Int) (y0 y1 y2 y3 y4 y5 y6 y7 y8 y9 y10 y11 y12 : Int) (av bv : Value) (l m : List Cl) (hl : l.length ≤ 100000) (hm : m.length ≤ 100000) : Tri prog 22 #[.agg #[.int .i64 x0, .int .i64 x1, .int .i64 x2, .int .i64 x3, .int .i64 x4, .int .i64 x5, .int .i64 x6, .int .i64 x7, .int .i64 x8, .int .i64 x9, .int .i64 x10, .int .i64 x11, .int .i64 x12, av], .agg #[.int .i64 y0, .int .i64 y1, .int .i64 y2, .int .i64 y3, .int .i64 y4, .int .i64 y5, .int .i64 y6, .int .i64 y7, .int .i64 y8, .int .i64 y9, .int .i64 y10, .int .i64 y11, .int .i64 y12, bv]] [rd av 4 (l.map Cl.cells), rd bv 4 (m.map Cl.cells)] [] (fun v L' => v = .bool (Cf.sameI [x0, x1, x2, x3, x4, x5, x6, x7, x8, x9, x10, x11, x12] [y0, y1, y2, y3, y4, y5, y6, y7, y8, y9, y10, y11, y12] && Cf.sameC l m) ∧ L' = []) := by
 refine Tri.enter (args := [.agg #[.int .i64 x0, .int .i64 x1, .int .i64 x2, .int .i64 x3, .int .i64 x4, .int .i64 x5, .int .i64 x6, .int .i64 x7, .int .i64 x8, .int .i64 x9, .int .i64 x10, .int .i64 x11, .int .i64 x12, av], .agg #[.int .i64 y0, .int .i64 y1, .int .i64 y2, .int .i64 y3, .int .i64 y4, .int .i64 y5, .int .i64 y6, .int .i64 y7, .int .i64 y8, .int .i64 y9, .int .i64 y10, .int .i64 y11, .int .i64 y12, bv]]) (body := _) 32 func22 rfl ntmps22 rfl ?_
 intro w0
 refine J.seq <| J.region ?_
 refine O.one (Src.ro 0 rfl) (fun hV2 => ?_)
 refine O.l (Lo.box [.int .i64 x0, .int .i64 x1, .int .i64 x2, .int .i64 x3, .int .i64 x4, .int .i64 x5, .int .i64 x6, .int .i64 x7, .int .i64 x8, .int .i64 x9, .int .i64 x10, .int .i64 x11, .int .i64 x12, av] rfl rfl) rfl ?_
 rintro _ _ ⟨g1, rfl, rfl⟩
 refine O.one (Src.ro 1 rfl) (fun hV4 => ?_)
 refine O.l (Lo.box [.int .i64 y0, .int .i64 y1, .int .i64 y2, .int .i64 y3, .int .i64 y4, .int .i64 y5, .int .i64 y6, .int .i64 y7, .int .i64 y8, .int .i64 y9, .int .i64 y10, .int .i64 y11, .int .i64 y12, bv] rfl rfl) rfl ?_
 rintro _ _ ⟨g3, rfl, rfl⟩
 refine O.a rfl rfl <| O.nil <| J.seq <| J.drawMix [(0, false), (2, false), (1, true), (3, true), (4, false), (5, false)] [0, 1] [var g3 [.int .i64 y0, .int .i64 y1, .int .i64 y2, .int .i64 y3, .int .i64 y4, .int .i64 y5, .int .i64 y6, .int .i64 y7, .int .i64 y8, .int .i64 y9, .int .i64 y10, .int .i64 y11, .int .i64 y12, bv] 47, var g1 [.int .i64 x0, .int .i64 x1, .int .i64 x2, .int .i64 x3, .int .i64 x4, .int .i64 x5, .int .i64 x6, .int .i64 x7, .int .i64 x8, .int .i64 x9, .int .i64 x10, .int .i64 x11, .int .i64 x12, av] 47] Tryz.mixed (by kernel_rfl) (by decide) rfl <| Mx.q rfl (Qt.ld rfl (Cel.var 1 rfl) (o := 0) (off := 0) rfl (Cut.agg [.int .i64 x0, .int .i64 x1, .int .i64 x2, .int .i64 x3, .int .i64 x4, .int .i64 x5, .int .i64 x6, .int .i64 x7, .int .i64 x8, .int .i64 x9, .int .i64 x10, .int .i64 x11, .int .i64 x12, av] isAgg47 sizeOf47 rfl rfl)) rfl <| Mx.q rfl (Qt.ld rfl (Cel.var 0 rfl) (o := 0) (off := 0) rfl (Cut.agg [.int .i64 y0, .int .i64 y1, .int .i64 y2, .int .i64 y3, .int .i64 y4, .int .i64 y5, .int .i64 y6, .int .i64 y7, .int .i64 y8, .int .i64 y9, .int .i64 y10, .int .i64 y11, .int .i64 y12, bv] isAgg47 sizeOf47 rfl rfl)) rfl <| Mx.l rfl (Lo.call [.agg #[.int .i64 x0, .int .i64 x1, .int .i64 x2, .int .i64 x3, .int .i64 x4, .int .i64 x5, .int .i64 x6, .int .i64 x7, .int .i64 x8, .int .i64 x9, .int .i64 x10, .int .i64 x11, .int .i64 x12, av]] (by exact call55) rfl (r28_numbers x0 x1 x2 x3 x4 x5 x6 x7 x8 x9 x10 x11 x12 av l) [] [0, 1] (by decide) rfl [var g3 [.int .i64 y0, .int .i64 y1, .int .i64 y2, .int .i64 y3, .int .i64 y4, .int .i64 y5, .int .i64 y6, .int .i64 y7, .int .i64 y8, .int .i64 y9, .int .i64 y10, .int .i64 y11, .int .i64 y12, bv] 47, var g1 [.int .i64 x0, .int .i64 x1, .int .i64 x2, .int .i64 x3, .int .i64 x4, .int .i64 x5, .int .i64 x6, .int .i64 x7, .int .i64 x8, .int .i64 x9, .int .i64 x10, .int .i64 x11, .int .i64 x12, av] 47] rfl (RoOk.ro 0 rfl [] rfl RoOk.nil)) rfl ?_
 rintro v5 _ ⟨_, rfl, rfl⟩
 refine MxK.go [1, 2] [0, 1] [var g3 [.int .i64 y0, .int .i64 y1, .int .i64 y2, .int .i64 y3, .int .i64 y4, .int .i64 y5, .int .i64 y6, .int .i64 y7, .int .i64 y8, .int .i64 y9, .int .i64 y10, .int .i64 y11, .int .i64 y12, bv] 47, var g1 [.int .i64 x0, .int .i64 x1, .int .i64 x2, .int .i64 x3, .int .i64 x4, .int .i64 x5, .int .i64 x6, .int .i64 x7, .int .i64 x8, .int .i64 x9, .int .i64 x10, .int .i64 x11, .int .i64 x12, av] 47] (by decide) rfl (by decide) rfl <| Mx.l rfl (Lo.call [.agg #[.int .i64 y0, .int .i64 y1, .int .i64 y2, .int .i64 y3, .int .i64 y4, .int .i64 y5, .int .i64 y6, .int .i64 y7, .int .i64 y8, .int .i64 y9, .int .i64 y10, .int .i64 y11, .int .i64 y12, bv]] (by exact call55) rfl (r28_numbers y0 y1 y2 y3 y4 y5 y6 y7 y8 y9 y10 y11 y12 bv m) [] [0, 1, 2] (by decide) rfl [row v5 3 1 (([x0, x1, x2, x3, x4, x5, x6, x7, x8, x9, x10, x11, x12]).map encZ), var g3 [.int .i64 y0, .int .i64 y1, .int .i64 y2, .int .i64 y3, .int .i64 y4, .int .i64 y5, .int .i64 y6, .int .i64 y7, .int .i64 y8, .int .i64 y9, .int .i64 y10, .int .i64 y11, .int .i64 y12, bv] 47, var g1 [.int .i64 x0, .int .i64 x1, .int .i64 x2, .int .i64 x3, .int .i64 x4, .int .i64 x5, .int .i64 x6, .int .i64 x7, .int .i64 x8, .int .i64 x9, .int .i64 x10, .int .i64 x11, .int .i64 x12, av] 47] rfl (RoOk.ro 1 rfl [] rfl RoOk.nil)) rfl ?_
 rintro v6 _ ⟨_, rfl, rfl⟩
 refine MxK.all [2, 3] [var g3 [.int .i64 y0, .int .i64 y1, .int .i64 y2, .int .i64 y3, .int .i64 y4, .int .i64 y5, .int .i64 y6, .int .i64 y7, .int .i64 y8, .int .i64 y9, .int .i64 y10, .int .i64 y11, .int .i64 y12, bv] 47, var g1 [.int .i64 x0, .int .i64 x1, .int .i64 x2, .int .i64 x3, .int .i64 x4, .int .i64 x5, .int .i64 x6, .int .i64 x7, .int .i64 x8, .int .i64 x9, .int .i64 x10, .int .i64 x11, .int .i64 x12, av] 47] (by decide) rfl (by kernel_rfl) <| Mx.p rfl (Pu.assign rfl) rfl <| Mx.p rfl (Pu.assign rfl) rfl <| Mx.nil <| J.seq <| J.seq <| J.region <| O.a rfl rfl <| O.nil <| J.block <| J.loop (X := Nat) (fun ξ => ξ ≤ 13 ∧ (([x0, x1, x2, x3, x4, x5, x6, x7, x8, x9, x10, x11, x12] : List Int).take ξ).map Cf.one = (([y0, y1, y2, y3, y4, y5, y6, y7, y8, y9, y10, y11, y12] : List Int).take ξ).map Cf.one) (fun ξ => [(2, .pointer (some ⟨g1, 0, none⟩)), (3, .pointer (some ⟨g3, 0, none⟩)), (5, v5), (6, v6), (7, .int .i64 (ξ : Int))]) (fun ξ => [var g1 [.int .i64 x0, .int .i64 x1, .int .i64 x2, .int .i64 x3, .int .i64 x4, .int .i64 x5, .int .i64 x6, .int .i64 x7, .int .i64 x8, .int .i64 x9, .int .i64 x10, .int .i64 x11, .int .i64 x12, av] 47, var g3 [.int .i64 y0, .int .i64 y1, .int .i64 y2, .int .i64 y3, .int .i64 y4, .int .i64 y5, .int .i64 y6, .int .i64 y7, .int .i64 y8, .int .i64 y9, .int .i64 y10, .int .i64 y11, .int .i64 y12, bv] 47, row v5 3 1 (([x0, x1, x2, x3, x4, x5, x6, x7, x8, x9, x10, x11, x12]).map encZ), row v6 3 1 (([y0, y1, y2, y3, y4, y5, y6, y7, y8, y9, y10, y11, y12]).map encZ)]) (fun ξ => 13 - ξ) 0 (show 0 ≤ 13 ∧ (([x0, x1, x2, x3, x4, x5, x6, x7, x8, x9, x10, x11, x12] : List Int).take 0).map Cf.one = (([y0, y1, y2, y3, y4, y5, y6, y7, y8, y9, y10, y11, y12] : List Int).take 0).map Cf.one from ⟨by omega, rfl⟩) ⟨rfl, rfl, rfl, rfl, (congrArg (fun z => some (Value.int .i64 z)) (by first | rfl | omega : (0 : Int) = (0 : Int))), trivial⟩ [3, 2, 1, 0] (by decide) rfl ?_
 rintro k hq7
 obtain ⟨hk, hst⟩ : k ≤ 13 ∧ (([x0, x1, x2, x3, x4, x5, x6, x7, x8, x9, x10, x11, x12] : List Int).take k).map Cf.one = (([y0, y1, y2, y3, y4, y5, y6, y7, y8, y9, y10, y11, y12] : List Int).take k).map Cf.one := hq7
 show J _ _ [(2, .pointer (some ⟨g1, 0, none⟩)), (3, .pointer (some ⟨g3, 0, none⟩)), (5, v5), (6, v6), (7, .int .i64 (k : Int))] [var g1 [.int .i64 x0, .int .i64 x1, .int .i64 x2, .int .i64 x3, .int .i64 x4, .int .i64 x5, .int .i64 x6, .int .i64 x7, .int .i64 x8, .int .i64 x9, .int .i64 x10, .int .i64 x11, .int .i64 x12, av] 47, var g3 [.int .i64 y0, .int .i64 y1, .int .i64 y2, .int .i64 y3, .int .i64 y4, .int .i64 y5, .int .i64 y6, .int .i64 y7, .int .i64 y8, .int .i64 y9, .int .i64 y10, .int .i64 y11, .int .i64 y12, bv] 47, row v5 3 1 (([x0, x1, x2, x3, x4, x5, x6, x7, x8, x9, x10, x11, x12]).map encZ), row v6 3 1 (([y0, y1, y2, y3, y4, y5, y6, y7, y8, y9, y10, y11, y12]).map encZ)]
 refine J.seq <| J.seq <| J.region <| O.m rfl rfl <| O.m rfl rfl <| O.q (Qt.lenM runUnderlying53 rfl (Src.row 2 rfl)) rfl <| O.p (Pu.lss rfl rfl) rfl <| O.nil ?_
 refine J.cond rfl (fun h8 => ?_) (fun h8 => ?_)
 ·
  have p9 := of_decide_eq_true h8
  refine J.skip <| J.seq <| J.block <| J.seq <| J.drawStill Tryz.mixed (by kernel_rfl) <| S.m rfl rfl <| S.m rfl rfl ?_
  obtain ⟨e10, he10⟩ : ∃ x_, ([x0, x1, x2, x3, x4, x5, x6, x7, x8, x9, x10, x11, x12])[k]? = some x_ := ⟨_, List.getElem?_eq_getElem (by first | omega | (simp only [List.length_cons, List.length_nil] at *; omega))⟩
  refine S.q (Qt.idxM runUnderlying53 sizeOf3 rfl (Src.row 2 rfl) rfl (by first | omega | (simp only [List.length_cons, List.length_nil] at *; omega)) (by first | omega | (simp only [List.length_cons, List.length_nil] at *; omega))) rfl <| S.q (Qt.ld rfl (Cel.eltM (Src.row 2 rfl) he10) (o := (voff v5 + k * 1)) (off := 0) (by omega) (Cut.one isAgg3 rfl)) rfl <| S.m rfl rfl <| S.m rfl rfl ?_
  obtain ⟨e11, he11⟩ : ∃ x_, ([y0, y1, y2, y3, y4, y5, y6, y7, y8, y9, y10, y11, y12])[k]? = some x_ := ⟨_, List.getElem?_eq_getElem (by first | omega | (simp only [List.length_cons, List.length_nil] at *; omega))⟩
  refine S.q (Qt.idxM runUnderlying53 sizeOf3 rfl (Src.row 3 rfl) rfl (by first | omega | (simp only [List.length_cons, List.length_nil] at *; omega)) (by first | omega | (simp only [List.length_cons, List.length_nil] at *; omega))) rfl <| S.q (Qt.ld rfl (Cel.eltM (Src.row 3 rfl) he11) (o := (voff v6 + k * 1)) (off := 0) (by omega) (Cut.one isAgg3 rfl)) rfl <| S.p (Pu.neq rfl rfl) rfl <| S.endJ ?_
  refine J.cond rfl (fun h12 => ?_) (fun h12 => ?_)
  ·
   have p13 := of_decide_eq_true h12
   refine J.seq <| J.region <| O.a rfl rfl <| O.nil ?_
   exact J.ret (Fin.ret (rs := [.tmp 4]) rfl [_] ⟨rfl, trivial⟩ [] (by decide) [] rfl ⟨(by rw [show Cf.sameI [x0, x1, x2, x3, x4, x5, x6, x7, x8, x9, x10, x11, x12] [y0, y1, y2, y3, y4, y5, y6, y7, y8, y9, y10, y11, y12] = false from decide_eq_false (Cf.eqP_bad (f := Cf.one) he10 he11 (by simp only [Cf.one, List.cons.injEq, and_true] at *; simp_all; done))]; rfl), rfl⟩)
  ·
   have p14 := of_decide_eq_false h12
   refine J.skip <| J.blk <| J.region <| O.m rfl rfl <| O.p (Pu.add' rfl rfl (by first | omega | (simp only [List.length_append, List.length_cons, List.length_nil, List.length_set]; omega))) rfl <| O.a rfl rfl <| O.nil ?_
   exact J.lp (k + 1) (show (k + 1) ≤ 13 ∧ (([x0, x1, x2, x3, x4, x5, x6, x7, x8, x9, x10, x11, x12] : List Int).take (k + 1)).map Cf.one = (([y0, y1, y2, y3, y4, y5, y6, y7, y8, y9, y10, y11, y12] : List Int).take (k + 1)).map Cf.one from ⟨(by simp only [List.length_cons, List.length_nil] at *; omega), Cf.eqP_next hst he10 he11 (by simp only [Cf.one, List.cons.injEq, and_true] at *; simp_all; done)⟩) (show 13 - (k + 1) < 13 - k from (by first | omega | (simp only [List.length_cons, List.length_nil] at *; omega))) ⟨rfl, rfl, rfl, rfl, (congrArg (fun z => some (Value.int .i64 z)) (by first | rfl | omega : ((k : Int) + 1 : Int) = ((k + 1) : Int))), trivial⟩ [0, 1, 2, 3] (by decide) rfl
 ·
  have p15 := of_decide_eq_false h8
  refine J.exit _ rfl <| J.seq <| J.region <| O.p (Pu.fieldAddr (off' := 13) runUnderlying47 rfl sizeOf45 rfl rfl rfl) rfl <| O.q (Qt.ld rfl (Cel.var 0 rfl) (o := 0) (off := 13) rfl (Cut.one isAgg45 rfl)) rfl <| O.p (Pu.fieldAddr (off' := 13) runUnderlying47 rfl sizeOf45 rfl rfl rfl) rfl <| O.q (Qt.ld rfl (Cel.var 1 rfl) (o := 0) (off := 13) rfl (Cut.one isAgg45 rfl)) rfl <| O.l (Lo.call [av, bv] (by exact call56) rfl (r28_SameCalls av bv l m (by omega) (by omega)) [] [0, 1, 2, 3] (by decide) rfl [var g1 [.int .i64 x0, .int .i64 x1, .int .i64 x2, .int .i64 x3, .int .i64 x4, .int .i64 x5, .int .i64 x6, .int .i64 x7, .int .i64 x8, .int .i64 x9, .int .i64 x10, .int .i64 x11, .int .i64 x12, av] 47, var g3 [.int .i64 y0, .int .i64 y1, .int .i64 y2, .int .i64 y3, .int .i64 y4, .int .i64 y5, .int .i64 y6, .int .i64 y7, .int .i64 y8, .int .i64 y9, .int .i64 y10, .int .i64 y11, .int .i64 y12, bv] 47, row v5 3 1 (([x0, x1, x2, x3, x4, x5, x6, x7, x8, x9, x10, x11, x12]).map encZ), row v6 3 1 (([y0, y1, y2, y3, y4, y5, y6, y7, y8, y9, y10, y11, y12]).map encZ)] rfl (RoOk.ro 0 rfl [] rfl (RoOk.ro 1 rfl [] rfl RoOk.nil))) rfl ?_
  rintro _ _ ⟨_, ⟨rfl, rfl⟩, rfl⟩
  refine O.a rfl rfl <| O.nil ?_
  exact J.ret (Fin.ret (rs := [.tmp 4]) rfl [_] ⟨rfl, trivial⟩ [] (by decide) [] rfl ⟨(by rw [show Cf.sameI [x0, x1, x2, x3, x4, x5, x6, x7, x8, x9, x10, x11, x12] [y0, y1, y2, y3, y4, y5, y6, y7, y8, y9, y10, y11, y12] = true from decide_eq_true (Cf.eqP_all hst (by simp only [List.length_cons, List.length_nil] at *; omega) (by simp only [List.length_cons, List.length_nil] at *; omega))]; rfl), rfl⟩)

set_option maxRecDepth 100000 in
theorem sl_Equal_int (av bv : Value) (l m : List Int) (hl : l.length ≤ 100000) (_hm : m.length ≤ 100000) : Tri prog 79 #[av, bv] [rd av 1 (l.map encZ), rd bv 1 (m.map encZ)] [] (fun v L' => v = .bool (Cf.sameI l m) ∧ L' = []) := by
 refine Tri.enter (args := [av, bv]) (body := _) 26 func79 rfl ntmps79 rfl ?_
 intro w0
 refine J.seq <| J.region <| O.a rfl rfl <| O.nil <| J.seq <| J.seq <| J.region <| O.m rfl rfl <| O.q (Qt.lenM runUnderlying53 rfl (Src.ro 0 rfl)) rfl <| O.m rfl rfl <| O.q (Qt.lenM runUnderlying53 rfl (Src.ro 1 rfl)) rfl <| O.p (Pu.neq rfl rfl) rfl ?_
 refine O.nil ?_
 refine J.cond rfl (fun h1 => ?_) (fun h1 => ?_)
 ·
  have p2 := of_decide_eq_true h1
  refine J.seq <| J.region <| O.a rfl rfl <| O.nil ?_
  exact J.ret (Fin.ret (rs := [.tmp 4]) rfl [_] ⟨rfl, trivial⟩ [] (by decide) [] rfl ⟨(by rw [show Cf.sameI l m = false from decide_eq_false (Cf.eqP_len (by omega))]; rfl), rfl⟩)
 ·
  have p3 := of_decide_eq_false h1
  refine J.skip <| J.seq <| J.seq <| J.region <| O.m rfl rfl <| O.q (Qt.lenM runUnderlying53 rfl (Src.ro 0 rfl)) rfl <| O.m rfl rfl <| O.nil <| J.block <| J.loop (X := Nat) (fun ξ => ξ ≤ l.length ∧ (l.take ξ).map Cf.one = (m.take ξ).map Cf.one) (fun ξ => [(0, av), (1, bv), (12, .int .i64 (l.length : Int)), (13, .int .i64 (ξ : Int))]) (fun ξ => []) (fun ξ => l.length - ξ) 0 (show 0 ≤ l.length ∧ (l.take 0).map Cf.one = (m.take 0).map Cf.one from ⟨by omega, rfl⟩) ⟨rfl, rfl, rfl, (congrArg (fun z => some (Value.int .i64 z)) (by first | rfl | omega : (0 : Int) = (0 : Int))), trivial⟩ [] (by decide) rfl ?_
  rintro k hq4
  obtain ⟨hk, hst⟩ : k ≤ l.length ∧ (l.take k).map Cf.one = (m.take k).map Cf.one := hq4
  show J _ _ [(0, av), (1, bv), (12, .int .i64 (l.length : Int)), (13, .int .i64 (k : Int))] []
  refine J.seq <| J.region <| O.p (Pu.lss rfl rfl) rfl <| O.nil <| J.seq ?_
  refine J.cond rfl (fun h5 => ?_) (fun h5 => ?_)
  ·
   have p6 := of_decide_eq_true h5
   refine J.skip <| J.seq <| J.block <| J.seq <| J.region <| O.m rfl rfl <| O.a rfl rfl <| O.nil <| J.seq <| J.drawStill Tryz.mixed (by kernel_rfl) <| S.m rfl rfl <| S.m rfl rfl ?_
   obtain ⟨e7, he7⟩ : ∃ x_, l[k]? = some x_ := ⟨_, List.getElem?_eq_getElem (by first | omega | (simp only [List.length_append, List.length_cons, List.length_nil, List.length_set]; omega))⟩
   refine S.q (Qt.idxM runUnderlying53 sizeOf3 rfl (Src.ro 0 rfl) rfl (by first | omega | (simp only [List.length_append, List.length_cons, List.length_nil, List.length_set]; omega)) (by first | omega | (simp only [List.length_append, List.length_cons, List.length_nil, List.length_set]; omega))) rfl <| S.q (Qt.ld rfl (Cel.eltM (Src.ro 0 rfl) he7) (o := (voff av + k * 1)) (off := 0) (by omega) (Cut.one isAgg3 rfl)) rfl <| S.m rfl rfl <| S.m rfl rfl ?_
   obtain ⟨e8, he8⟩ : ∃ x_, m[k]? = some x_ := ⟨_, List.getElem?_eq_getElem (by first | omega | (simp only [List.length_append, List.length_cons, List.length_nil, List.length_set]; omega))⟩
   refine S.q (Qt.idxM runUnderlying53 sizeOf3 rfl (Src.ro 1 rfl) rfl (by first | omega | (simp only [List.length_append, List.length_cons, List.length_nil, List.length_set]; omega)) (by first | omega | (simp only [List.length_append, List.length_cons, List.length_nil, List.length_set]; omega))) rfl <| S.q (Qt.ld rfl (Cel.eltM (Src.ro 1 rfl) he8) (o := (voff bv + k * 1)) (off := 0) (by omega) (Cut.one isAgg3 rfl)) rfl <| S.p (Pu.neq rfl rfl) rfl <| S.endJ ?_
   refine J.cond rfl (fun h9 => ?_) (fun h9 => ?_)
   ·
    have p10 := of_decide_eq_true h9
    refine J.seq <| J.region <| O.a rfl rfl <| O.nil ?_
    exact J.ret (Fin.ret (rs := [.tmp 4]) rfl [_] ⟨rfl, trivial⟩ [] (by decide) [] rfl ⟨(by rw [show Cf.sameI l m = false from decide_eq_false (Cf.eqP_bad (f := Cf.one) he7 he8 (by first | (simp only [Cf.one, Cf.clL, List.cons.injEq, and_true] at *; simp_all; done) | (simp only [Cf.clL] at *; simp_all; done)))]; rfl), rfl⟩)
   ·
    have p11 := of_decide_eq_false h9
    refine J.skip <| J.blk <| J.region <| O.p (Pu.add' rfl rfl (by first | omega | (simp only [List.length_append, List.length_cons, List.length_nil, List.length_set]; omega))) rfl <| O.m rfl rfl <| O.nil ?_
    exact J.lp (k + 1) (show (k + 1) ≤ l.length ∧ (l.take (k + 1)).map Cf.one = (m.take (k + 1)).map Cf.one from ⟨by omega, Cf.eqP_next hst he7 he8 (by first | (simp only [Cf.one, Cf.clL, List.cons.injEq, and_true] at *; simp_all; done) | (simp only [Cf.clL] at *; simp_all; done))⟩) (show l.length - (k + 1) < l.length - k from (by first | omega | (simp only [List.length_append, List.length_cons, List.length_nil, List.length_set]; omega))) ⟨rfl, rfl, rfl, (congrArg (fun z => some (Value.int .i64 z)) (by first | rfl | omega : ((k : Int) + 1 : Int) = ((k + 1) : Int))), trivial⟩ [] (by decide) rfl
  ·
   have p12 := of_decide_eq_false h5
   refine J.exit _ rfl <| J.seq <| J.region <| O.a rfl rfl <| O.nil ?_
   exact J.ret (Fin.ret (rs := [.tmp 4]) rfl [_] ⟨rfl, trivial⟩ [] (by decide) [] rfl ⟨(by rw [show Cf.sameI l m = true from decide_eq_true (Cf.eqP_all hst (by omega) (by omega))]; rfl), rfl⟩)

set_option maxRecDepth 100000 in
theorem sl_Equal_Call (av bv : Value) (l m : List Cl) (hl : l.length ≤ 100000) (_hm : m.length ≤ 100000) : Tri prog 80 #[av, bv] [rd av 4 (l.map Cl.cells), rd bv 4 (m.map Cl.cells)] [] (fun v L' => v = .bool (Cf.sameC l m) ∧ L' = []) := by
 refine Tri.enter (args := [av, bv]) (body := _) 26 func80 rfl ntmps80 rfl ?_
 intro w0
 refine J.seq <| J.region <| O.a rfl rfl <| O.nil <| J.seq <| J.seq <| J.region <| O.m rfl rfl <| O.q (Qt.lenM runUnderlying45 rfl (Src.ro 0 rfl)) rfl <| O.m rfl rfl <| O.q (Qt.lenM runUnderlying45 rfl (Src.ro 1 rfl)) rfl <| O.p (Pu.neq rfl rfl) rfl ?_
 refine O.nil ?_
 refine J.cond rfl (fun h1 => ?_) (fun h1 => ?_)
 ·
  have p2 := of_decide_eq_true h1
  refine J.seq <| J.region <| O.a rfl rfl <| O.nil ?_
  exact J.ret (Fin.ret (rs := [.tmp 4]) rfl [_] ⟨rfl, trivial⟩ [] (by decide) [] rfl ⟨(by rw [show Cf.sameC l m = false from decide_eq_false (Cf.eqP_len (by omega))]; rfl), rfl⟩)
 ·
  have p3 := of_decide_eq_false h1
  refine J.skip <| J.seq <| J.seq <| J.region <| O.m rfl rfl <| O.q (Qt.lenM runUnderlying45 rfl (Src.ro 0 rfl)) rfl <| O.m rfl rfl <| O.nil <| J.block <| J.loop (X := Nat) (fun ξ => ξ ≤ l.length ∧ (l.take ξ).map Cf.clL = (m.take ξ).map Cf.clL) (fun ξ => [(0, av), (1, bv), (12, .int .i64 (l.length : Int)), (13, .int .i64 (ξ : Int))]) (fun ξ => []) (fun ξ => l.length - ξ) 0 (show 0 ≤ l.length ∧ (l.take 0).map Cf.clL = (m.take 0).map Cf.clL from ⟨by omega, rfl⟩) ⟨rfl, rfl, rfl, (congrArg (fun z => some (Value.int .i64 z)) (by first | rfl | omega : (0 : Int) = (0 : Int))), trivial⟩ [] (by decide) rfl ?_
  rintro k hq4
  obtain ⟨hk, hst⟩ : k ≤ l.length ∧ (l.take k).map Cf.clL = (m.take k).map Cf.clL := hq4
  show J _ _ [(0, av), (1, bv), (12, .int .i64 (l.length : Int)), (13, .int .i64 (k : Int))] []
  refine J.seq <| J.region <| O.p (Pu.lss rfl rfl) rfl <| O.nil <| J.seq ?_
  refine J.cond rfl (fun h5 => ?_) (fun h5 => ?_)
  ·
   have p6 := of_decide_eq_true h5
   refine J.skip <| J.seq <| J.block <| J.seq <| J.region <| O.m rfl rfl <| O.a rfl rfl <| O.nil <| J.seq <| J.drawStill Tryz.mixed (by kernel_rfl) <| S.m rfl rfl <| S.m rfl rfl ?_
   obtain ⟨e7, he7⟩ : ∃ x_, l[k]? = some x_ := ⟨_, List.getElem?_eq_getElem (by first | omega | (simp only [List.length_append, List.length_cons, List.length_nil, List.length_set]; omega))⟩
   refine S.q (Qt.idxM runUnderlying45 sizeOf50 rfl (Src.ro 0 rfl) rfl (by first | omega | (simp only [List.length_append, List.length_cons, List.length_nil, List.length_set]; omega)) (by first | omega | (simp only [List.length_append, List.length_cons, List.length_nil, List.length_set]; omega))) rfl <| S.q (Qt.ld rfl (Cel.eltM (Src.ro 0 rfl) he7) (o := (voff av + k * 4)) (off := 0) (by omega) (Cut.agg [.int .i64 e7.to, .int .i64 e7.tier, .int .i64 e7.weight, .int .i64 e7.most] isAgg50 sizeOf50 rfl rfl)) rfl <| S.m rfl rfl <| S.m rfl rfl ?_
   obtain ⟨e8, he8⟩ : ∃ x_, m[k]? = some x_ := ⟨_, List.getElem?_eq_getElem (by first | omega | (simp only [List.length_append, List.length_cons, List.length_nil, List.length_set]; omega))⟩
   refine S.q (Qt.idxM runUnderlying45 sizeOf50 rfl (Src.ro 1 rfl) rfl (by first | omega | (simp only [List.length_append, List.length_cons, List.length_nil, List.length_set]; omega)) (by first | omega | (simp only [List.length_append, List.length_cons, List.length_nil, List.length_set]; omega))) rfl <| S.q (Qt.ld rfl (Cel.eltM (Src.ro 1 rfl) he8) (o := (voff bv + k * 4)) (off := 0) (by omega) (Cut.agg [.int .i64 e8.to, .int .i64 e8.tier, .int .i64 e8.weight, .int .i64 e8.most] isAgg50 sizeOf50 rfl rfl)) rfl <| S.p (Pu.neqI [e7.to, e7.tier, e7.weight, e7.most] [e8.to, e8.tier, e8.weight, e8.most] underlying50 stoodInHeld50 eqGuardType50 (fint50 underlying50) rfl rfl rfl rfl) rfl <| S.endJ ?_
   refine J.cond rfl (fun h9 => ?_) (fun h9 => ?_)
   ·
    have h10 : (decide (([e7.to, e7.tier, e7.weight, e7.most] : List Int) = [e8.to, e8.tier, e8.weight, e8.most])) = false := not_flip h9
    have p11 := of_decide_eq_false h10
    refine J.seq <| J.region <| O.a rfl rfl <| O.nil ?_
    exact J.ret (Fin.ret (rs := [.tmp 4]) rfl [_] ⟨rfl, trivial⟩ [] (by decide) [] rfl ⟨(by rw [show Cf.sameC l m = false from decide_eq_false (Cf.eqP_bad (f := Cf.clL) he7 he8 (by first | (simp only [Cf.one, Cf.clL, List.cons.injEq, and_true] at *; simp_all; done) | (simp only [Cf.clL] at *; simp_all; done)))]; rfl), rfl⟩)
   ·
    have h12 : (decide (([e7.to, e7.tier, e7.weight, e7.most] : List Int) = [e8.to, e8.tier, e8.weight, e8.most])) = true := not_flip h9
    have p13 := of_decide_eq_true h12
    refine J.skip <| J.blk <| J.region <| O.p (Pu.add' rfl rfl (by first | omega | (simp only [List.length_append, List.length_cons, List.length_nil, List.length_set]; omega))) rfl <| O.m rfl rfl <| O.nil ?_
    exact J.lp (k + 1) (show (k + 1) ≤ l.length ∧ (l.take (k + 1)).map Cf.clL = (m.take (k + 1)).map Cf.clL from ⟨by omega, Cf.eqP_next hst he7 he8 (by first | (simp only [Cf.one, Cf.clL, List.cons.injEq, and_true] at *; simp_all; done) | (simp only [Cf.clL] at *; simp_all; done))⟩) (show l.length - (k + 1) < l.length - k from (by first | omega | (simp only [List.length_append, List.length_cons, List.length_nil, List.length_set]; omega))) ⟨rfl, rfl, rfl, (congrArg (fun z => some (Value.int .i64 z)) (by first | rfl | omega : ((k : Int) + 1 : Int) = ((k + 1) : Int))), trivial⟩ [] (by decide) rfl
  ·
   have p14 := of_decide_eq_false h5
   refine J.exit _ rfl <| J.seq <| J.region <| O.a rfl rfl <| O.nil ?_
   exact J.ret (Fin.ret (rs := [.tmp 4]) rfl [_] ⟨rfl, trivial⟩ [] (by decide) [] rfl ⟨(by rw [show Cf.sameC l m = true from decide_eq_true (Cf.eqP_all hst (by omega) (by omega))]; rfl), rfl⟩)

set_option maxRecDepth 100000 in
set_option maxHeartbeats 1000000 in
theorem cf_Same (x0 x1 x2 x3 x4 x5 x6 x7 x8 x9 x10 x11 x12 : Int) (y0 y1 y2 y3 y4 y5 y6 y7 y8 y9 y10 y11 y12 : Int) (av bv : Value) (l m : List Cl) (hl : l.length ≤ 100000) (hm : m.length ≤ 100000) : Tri prog 46 #[.agg #[.int .i64 x0, .int .i64 x1, .int .i64 x2, .int .i64 x3, .int .i64 x4, .int .i64 x5, .int .i64 x6, .int .i64 x7, .int .i64 x8, .int .i64 x9, .int .i64 x10, .int .i64 x11, .int .i64 x12, av], .agg #[.int .i64 y0, .int .i64 y1, .int .i64 y2, .int .i64 y3, .int .i64 y4, .int .i64 y5, .int .i64 y6, .int .i64 y7, .int .i64 y8, .int .i64 y9, .int .i64 y10, .int .i64 y11, .int .i64 y12, bv]] [rd av 4 (l.map Cl.cells), rd bv 4 (m.map Cl.cells)] [] (fun v L' => v = .bool (Cf.sameI [x0, x1, x2, x3, x4, x5, x6, x7, x8, x9, x10, x11, x12] [y0, y1, y2, y3, y4, y5, y6, y7, y8, y9, y10, y11, y12] && Cf.sameC l m) ∧ L' = []) := by
 refine Tri.enter (args := [.agg #[.int .i64 x0, .int .i64 x1, .int .i64 x2, .int .i64 x3, .int .i64 x4, .int .i64 x5, .int .i64 x6, .int .i64 x7, .int .i64 x8, .int .i64 x9, .int .i64 x10, .int .i64 x11, .int .i64 x12, av], .agg #[.int .i64 y0, .int .i64 y1, .int .i64 y2, .int .i64 y3, .int .i64 y4, .int .i64 y5, .int .i64 y6, .int .i64 y7, .int .i64 y8, .int .i64 y9, .int .i64 y10, .int .i64 y11, .int .i64 y12, bv]]) (body := _) 17 func46 rfl ntmps46 rfl ?_
 intro w0
 refine J.seq <| J.region ?_
 refine O.one (Src.ro 0 rfl) (fun hV2 => ?_)
 refine O.l (Lo.box [.int .i64 x0, .int .i64 x1, .int .i64 x2, .int .i64 x3, .int .i64 x4, .int .i64 x5, .int .i64 x6, .int .i64 x7, .int .i64 x8, .int .i64 x9, .int .i64 x10, .int .i64 x11, .int .i64 x12, av] rfl rfl) rfl ?_
 rintro _ _ ⟨g1, rfl, rfl⟩
 refine O.one (Src.ro 1 rfl) (fun hV4 => ?_)
 refine O.l (Lo.box [.int .i64 y0, .int .i64 y1, .int .i64 y2, .int .i64 y3, .int .i64 y4, .int .i64 y5, .int .i64 y6, .int .i64 y7, .int .i64 y8, .int .i64 y9, .int .i64 y10, .int .i64 y11, .int .i64 y12, bv] rfl rfl) rfl ?_
 rintro _ _ ⟨g3, rfl, rfl⟩
 refine O.a rfl rfl <| O.nil <| J.seq <| J.drawMix [(0, false), (2, false), (1, true), (3, true), (4, true), (5, false), (6, false), (7, false), (8, false), (9, false), (10, true), (11, false), (12, false)] [0, 1] [var g3 [.int .i64 y0, .int .i64 y1, .int .i64 y2, .int .i64 y3, .int .i64 y4, .int .i64 y5, .int .i64 y6, .int .i64 y7, .int .i64 y8, .int .i64 y9, .int .i64 y10, .int .i64 y11, .int .i64 y12, bv] 47, var g1 [.int .i64 x0, .int .i64 x1, .int .i64 x2, .int .i64 x3, .int .i64 x4, .int .i64 x5, .int .i64 x6, .int .i64 x7, .int .i64 x8, .int .i64 x9, .int .i64 x10, .int .i64 x11, .int .i64 x12, av] 47] Tryz.mixed (by kernel_rfl) (by decide) rfl <| Mx.q rfl (Qt.ld rfl (Cel.var 1 rfl) (o := 0) (off := 0) rfl (Cut.agg [.int .i64 x0, .int .i64 x1, .int .i64 x2, .int .i64 x3, .int .i64 x4, .int .i64 x5, .int .i64 x6, .int .i64 x7, .int .i64 x8, .int .i64 x9, .int .i64 x10, .int .i64 x11, .int .i64 x12, av] isAgg47 sizeOf47 rfl rfl)) rfl <| Mx.q rfl (Qt.ld rfl (Cel.var 0 rfl) (o := 0) (off := 0) rfl (Cut.agg [.int .i64 y0, .int .i64 y1, .int .i64 y2, .int .i64 y3, .int .i64 y4, .int .i64 y5, .int .i64 y6, .int .i64 y7, .int .i64 y8, .int .i64 y9, .int .i64 y10, .int .i64 y11, .int .i64 y12, bv] isAgg47 sizeOf47 rfl rfl)) rfl <| Mx.l rfl (Lo.call [.agg #[.int .i64 x0, .int .i64 x1, .int .i64 x2, .int .i64 x3, .int .i64 x4, .int .i64 x5, .int .i64 x6, .int .i64 x7, .int .i64 x8, .int .i64 x9, .int .i64 x10, .int .i64 x11, .int .i64 x12, av]] (by exact call71) rfl (cf_numbers x0 x1 x2 x3 x4 x5 x6 x7 x8 x9 x10 x11 x12 av l) [] [0, 1] (by decide) rfl [var g3 [.int .i64 y0, .int .i64 y1, .int .i64 y2, .int .i64 y3, .int .i64 y4, .int .i64 y5, .int .i64 y6, .int .i64 y7, .int .i64 y8, .int .i64 y9, .int .i64 y10, .int .i64 y11, .int .i64 y12, bv] 47, var g1 [.int .i64 x0, .int .i64 x1, .int .i64 x2, .int .i64 x3, .int .i64 x4, .int .i64 x5, .int .i64 x6, .int .i64 x7, .int .i64 x8, .int .i64 x9, .int .i64 x10, .int .i64 x11, .int .i64 x12, av] 47] rfl (RoOk.ro 0 rfl [] rfl RoOk.nil)) rfl ?_
 rintro v5 _ ⟨_, rfl, rfl⟩
 refine MxK.go [1, 2] [0, 1] [var g3 [.int .i64 y0, .int .i64 y1, .int .i64 y2, .int .i64 y3, .int .i64 y4, .int .i64 y5, .int .i64 y6, .int .i64 y7, .int .i64 y8, .int .i64 y9, .int .i64 y10, .int .i64 y11, .int .i64 y12, bv] 47, var g1 [.int .i64 x0, .int .i64 x1, .int .i64 x2, .int .i64 x3, .int .i64 x4, .int .i64 x5, .int .i64 x6, .int .i64 x7, .int .i64 x8, .int .i64 x9, .int .i64 x10, .int .i64 x11, .int .i64 x12, av] 47] (by decide) rfl (by decide) rfl <| Mx.l rfl (Lo.call [.agg #[.int .i64 y0, .int .i64 y1, .int .i64 y2, .int .i64 y3, .int .i64 y4, .int .i64 y5, .int .i64 y6, .int .i64 y7, .int .i64 y8, .int .i64 y9, .int .i64 y10, .int .i64 y11, .int .i64 y12, bv]] (by exact call71) rfl (cf_numbers y0 y1 y2 y3 y4 y5 y6 y7 y8 y9 y10 y11 y12 bv m) [] [0, 1, 2] (by decide) rfl [row v5 3 1 (([x0, x1, x2, x3, x4, x5, x6, x7, x8, x9, x10, x11, x12]).map encZ), var g3 [.int .i64 y0, .int .i64 y1, .int .i64 y2, .int .i64 y3, .int .i64 y4, .int .i64 y5, .int .i64 y6, .int .i64 y7, .int .i64 y8, .int .i64 y9, .int .i64 y10, .int .i64 y11, .int .i64 y12, bv] 47, var g1 [.int .i64 x0, .int .i64 x1, .int .i64 x2, .int .i64 x3, .int .i64 x4, .int .i64 x5, .int .i64 x6, .int .i64 x7, .int .i64 x8, .int .i64 x9, .int .i64 x10, .int .i64 x11, .int .i64 x12, av] 47] rfl (RoOk.ro 1 rfl [] rfl RoOk.nil)) rfl ?_
 rintro v6 _ ⟨_, rfl, rfl⟩
 refine MxK.all [2, 3] [var g3 [.int .i64 y0, .int .i64 y1, .int .i64 y2, .int .i64 y3, .int .i64 y4, .int .i64 y5, .int .i64 y6, .int .i64 y7, .int .i64 y8, .int .i64 y9, .int .i64 y10, .int .i64 y11, .int .i64 y12, bv] 47, var g1 [.int .i64 x0, .int .i64 x1, .int .i64 x2, .int .i64 x3, .int .i64 x4, .int .i64 x5, .int .i64 x6, .int .i64 x7, .int .i64 x8, .int .i64 x9, .int .i64 x10, .int .i64 x11, .int .i64 x12, av] 47] (by decide) rfl (by kernel_rfl) <| Mx.l rfl (Lo.call [v5, v6] (by exact call79) rfl (sl_Equal_int v5 v6 ([x0, x1, x2, x3, x4, x5, x6, x7, x8, x9, x10, x11, x12]) ([y0, y1, y2, y3, y4, y5, y6, y7, y8, y9, y10, y11, y12]) (by first | omega | decide | (simp only [List.length_cons, List.length_nil]; omega)) (by first | omega | decide | (simp only [List.length_cons, List.length_nil]; omega))) [] [0, 1, 2, 3] (by decide) rfl [row v6 3 1 (([y0, y1, y2, y3, y4, y5, y6, y7, y8, y9, y10, y11, y12]).map encZ), row v5 3 1 (([x0, x1, x2, x3, x4, x5, x6, x7, x8, x9, x10, x11, x12]).map encZ), var g3 [.int .i64 y0, .int .i64 y1, .int .i64 y2, .int .i64 y3, .int .i64 y4, .int .i64 y5, .int .i64 y6, .int .i64 y7, .int .i64 y8, .int .i64 y9, .int .i64 y10, .int .i64 y11, .int .i64 y12, bv] 47, var g1 [.int .i64 x0, .int .i64 x1, .int .i64 x2, .int .i64 x3, .int .i64 x4, .int .i64 x5, .int .i64 x6, .int .i64 x7, .int .i64 x8, .int .i64 x9, .int .i64 x10, .int .i64 x11, .int .i64 x12, av] 47] rfl (RoOk.of 1 rfl row_rd [] (by decide) rfl (RoOk.of 0 rfl row_rd [] (by decide) rfl RoOk.nil))) rfl ?_
 rintro _ _ ⟨_, ⟨rfl, rfl⟩, rfl⟩
 refine MxK.all [2, 3] [var g3 [.int .i64 y0, .int .i64 y1, .int .i64 y2, .int .i64 y3, .int .i64 y4, .int .i64 y5, .int .i64 y6, .int .i64 y7, .int .i64 y8, .int .i64 y9, .int .i64 y10, .int .i64 y11, .int .i64 y12, bv] 47, var g1 [.int .i64 x0, .int .i64 x1, .int .i64 x2, .int .i64 x3, .int .i64 x4, .int .i64 x5, .int .i64 x6, .int .i64 x7, .int .i64 x8, .int .i64 x9, .int .i64 x10, .int .i64 x11, .int .i64 x12, av] 47] (by decide) rfl (by kernel_rfl) <| Mx.p rfl (Pu.move rfl) rfl ?_
 refine by_bool (Cf.sameI ([x0, x1, x2, x3, x4, x5, x6, x7, x8, x9, x10, x11, x12]) ([y0, y1, y2, y3, y4, y5, y6, y7, y8, y9, y10, y11, y12])) (fun h8 => ?_) (fun h8 => ?_)
 ·
  refine Mx.gq (t := 10) rfl rfl rfl h8 rfl (Pu.qt (Pu.fieldAddr (off' := 13) runUnderlying47 rfl sizeOf45 rfl rfl rfl)) rfl <| Mx.gq (t := 10) rfl rfl rfl h8 rfl (Qt.ld rfl (Cel.var 1 rfl) (o := 0) (off := 13) rfl (Cut.one isAgg45 rfl)) rfl <| Mx.gq (t := 10) rfl rfl rfl h8 rfl (Pu.qt (Pu.fieldAddr (off' := 13) runUnderlying47 rfl sizeOf45 rfl rfl rfl)) rfl <| Mx.gq (t := 10) rfl rfl rfl h8 rfl (Qt.ld rfl (Cel.var 0 rfl) (o := 0) (off := 13) rfl (Cut.one isAgg45 rfl)) rfl <| Mx.gl (t := 10) rfl rfl rfl h8 rfl (Lo.call [av, bv] (by exact call80) rfl (sl_Equal_Call av bv l m (by first | omega | decide | (simp only [List.length_cons, List.length_nil]; omega)) (by first | omega | decide | (simp only [List.length_cons, List.length_nil]; omega))) [] [0, 1, 2, 3] (by decide) rfl [row v6 3 1 (([y0, y1, y2, y3, y4, y5, y6, y7, y8, y9, y10, y11, y12]).map encZ), row v5 3 1 (([x0, x1, x2, x3, x4, x5, x6, x7, x8, x9, x10, x11, x12]).map encZ), var g3 [.int .i64 y0, .int .i64 y1, .int .i64 y2, .int .i64 y3, .int .i64 y4, .int .i64 y5, .int .i64 y6, .int .i64 y7, .int .i64 y8, .int .i64 y9, .int .i64 y10, .int .i64 y11, .int .i64 y12, bv] 47, var g1 [.int .i64 x0, .int .i64 x1, .int .i64 x2, .int .i64 x3, .int .i64 x4, .int .i64 x5, .int .i64 x6, .int .i64 x7, .int .i64 x8, .int .i64 x9, .int .i64 x10, .int .i64 x11, .int .i64 x12, av] 47] rfl (RoOk.ro 0 rfl [] rfl (RoOk.ro 1 rfl [] rfl RoOk.nil))) rfl ?_
  rintro _ _ ⟨_, ⟨rfl, rfl⟩, rfl⟩
  refine MxK.go [2, 3] [0, 1] [var g3 [.int .i64 y0, .int .i64 y1, .int .i64 y2, .int .i64 y3, .int .i64 y4, .int .i64 y5, .int .i64 y6, .int .i64 y7, .int .i64 y8, .int .i64 y9, .int .i64 y10, .int .i64 y11, .int .i64 y12, bv] 47, var g1 [.int .i64 x0, .int .i64 x1, .int .i64 x2, .int .i64 x3, .int .i64 x4, .int .i64 x5, .int .i64 x6, .int .i64 x7, .int .i64 x8, .int .i64 x9, .int .i64 x10, .int .i64 x11, .int .i64 x12, av] 47] (by decide) rfl (by decide) rfl <| Mx.p rfl (Pu.pickT rfl h8 rfl) rfl <| Mx.p rfl (Pu.assign rfl) rfl <| Mx.nil ?_
  exact J.ret (Fin.ret (rs := [.tmp 4]) rfl [_] ⟨rfl, trivial⟩ [] (by decide) [] rfl ⟨(by simp only [vOf, *, Bool.true_and, Bool.false_and]), rfl⟩)
 ·
  refine Mx.gskip (t := 10) rfl rfl rfl (no_bool (by rw [h8]; decide)) rfl rfl <| Mx.gskip (t := 10) rfl rfl rfl (no_bool (by rw [h8]; decide)) rfl rfl <| Mx.gskip (t := 10) rfl rfl rfl (no_bool (by rw [h8]; decide)) rfl rfl <| Mx.gskip (t := 10) rfl rfl rfl (no_bool (by rw [h8]; decide)) rfl rfl <| Mx.gskipL (t := 10) rfl rfl rfl (no_bool (by rw [h8]; decide)) rfl rfl <| MxK.go [2, 3] [0, 1] [var g3 [.int .i64 y0, .int .i64 y1, .int .i64 y2, .int .i64 y3, .int .i64 y4, .int .i64 y5, .int .i64 y6, .int .i64 y7, .int .i64 y8, .int .i64 y9, .int .i64 y10, .int .i64 y11, .int .i64 y12, bv] 47, var g1 [.int .i64 x0, .int .i64 x1, .int .i64 x2, .int .i64 x3, .int .i64 x4, .int .i64 x5, .int .i64 x6, .int .i64 x7, .int .i64 x8, .int .i64 x9, .int .i64 x10, .int .i64 x11, .int .i64 x12, av] 47] (by decide) rfl (by decide) rfl <| Mx.p rfl (Pu.pickF rfl h8 rfl) rfl <| Mx.p rfl (Pu.assign rfl) rfl <| Mx.nil ?_
  exact J.ret (Fin.ret (rs := [.tmp 4]) rfl [_] ⟨rfl, trivial⟩ [] (by decide) [] rfl ⟨(by simp only [vOf, *, Bool.true_and, Bool.false_and]), rfl⟩)

end Go.Proofs.YtnhfgnnpbipcnaaGreatDoor
