/-
  Walks, printed by a program of mine (lk.py): each function meets its contract.
-/
import Derived.KernelRfl
import Derived.Test.YtilcmkegbmppnaaDoorCX4
namespace Go.Proofs.YtilcmkegbmppnaaDoor
open Go Go.LK
set_option linter.unusedSimpArgs false

set_option maxRecDepth 100000 in
theorem cf_req1 (c : Cl) : Tri Tryd.prog 49 #[.agg #[.int .i64 c.to, .int .i64 c.tier, .int .i64 c.weight, .int .i64 c.most]] [] [] (fun v L' => v = .bool (decide (c.tier = 0)) ∧ L' = []) := by
  refine Tri.enter (args := [.agg #[.int .i64 c.to, .int .i64 c.tier, .int .i64 c.weight, .int .i64 c.most]]) (body := _) 6 Tryd.func49 rfl Tryd.ntmps49 rfl ?_
  intro w0
  refine J.seq ?_
  refine J.region ?_
  refine O.l (Lo.box [.int .i64 c.to, .int .i64 c.tier, .int .i64 c.weight, .int .i64 c.most] rfl rfl) rfl ?_
  rintro _ _ ⟨g1, rfl, rfl⟩
  refine O.p (Pu.assign rfl) rfl ?_
  refine O.nil ?_
  refine J.seq ?_
  refine J.region ?_
  refine O.p (Pu.fieldAddr (off' := 1) Tryd.runUnderlying38 rfl Tryd.sizeOf3 rfl rfl rfl) rfl ?_
  refine O.q (Qt.ld rfl (Cel.var 0 rfl) (o := 0) (off := 1) rfl (Cut.one Tryd.isAgg3 rfl)) rfl ?_
  refine O.p (Pu.eql rfl rfl) rfl ?_
  refine O.p (Pu.assign rfl) rfl ?_
  refine O.nil ?_
  exact J.ret (Fin.ret (rs := [.tmp 2]) rfl [_] ⟨rfl, trivial⟩ [] (by decide) [] rfl ⟨rfl, rfl⟩)

set_option maxRecDepth 100000 in
theorem cf_opt1 (c : Cl) : Tri Tryd.prog 50 #[.agg #[.int .i64 c.to, .int .i64 c.tier, .int .i64 c.weight, .int .i64 c.most]] [] [] (fun v L' => v = .bool (decide (c.tier ≠ 0)) ∧ L' = []) := by
  refine Tri.enter (args := [.agg #[.int .i64 c.to, .int .i64 c.tier, .int .i64 c.weight, .int .i64 c.most]]) (body := _) 6 Tryd.func50 rfl Tryd.ntmps50 rfl ?_
  intro w0
  refine J.seq ?_
  refine J.region ?_
  refine O.l (Lo.box [.int .i64 c.to, .int .i64 c.tier, .int .i64 c.weight, .int .i64 c.most] rfl rfl) rfl ?_
  rintro _ _ ⟨g1, rfl, rfl⟩
  refine O.p (Pu.assign rfl) rfl ?_
  refine O.nil ?_
  refine J.seq ?_
  refine J.region ?_
  refine O.p (Pu.fieldAddr (off' := 1) Tryd.runUnderlying38 rfl Tryd.sizeOf3 rfl rfl rfl) rfl ?_
  refine O.q (Qt.ld rfl (Cel.var 0 rfl) (o := 0) (off := 1) rfl (Cut.one Tryd.isAgg3 rfl)) rfl ?_
  refine O.p (Pu.neq rfl rfl) rfl ?_
  refine O.p (Pu.assign rfl) rfl ?_
  refine O.nil ?_
  exact J.ret (Fin.ret (rs := [.tmp 2]) rfl [_] ⟨rfl, trivial⟩ [] (by decide) [] rfl ⟨rfl, rfl⟩)

set_option maxRecDepth 100000 in
theorem cf_some (fid : Nat) (caps : List Value) (p : Cl → Bool) (RoF : List Sp) (lv : Value) (l : List Cl) (hc : ∀ args w, (callFunc fid args).run Tryd.prog w = .ok (.enter fid args) w) (hF : ∀ e : Cl, Tri Tryd.prog fid (([.agg (Cl.cells e).toArray] : List Value) ++ caps).toArray RoF [] (fun v L' => v = .bool (p e) ∧ L' = [])) (hl : l.length ≤ 100000) : Tri Tryd.prog 48 #[lv, (.func (.func fid) #[] caps.toArray)] (rd lv 4 (l.map Cl.cells) :: RoF) [] (fun v L' => L' = [row v 38 4 ((l.filter p).map Cl.cells)]) := by
  refine Tri.enter (args := [lv, (.func (.func fid) #[] caps.toArray)]) (body := _) 23 Tryd.func48 rfl Tryd.ntmps48 rfl ?_
  intro w0
  refine J.seq ?_
  refine J.region ?_
  refine O.p (Pu.assign rfl) rfl ?_
  refine O.nil ?_
  refine J.seq ?_
  refine J.region ?_
  refine O.p (Pu.assign rfl) rfl ?_
  refine O.nil ?_
  refine J.seq ?_
  refine J.seq ?_
  refine J.region ?_
  refine O.p (Pu.move rfl) rfl ?_
  refine O.q (Qt.lenM Tryd.runUnderlying24 rfl (Src.ro 0 rfl)) rfl ?_
  refine O.p (Pu.move rfl) rfl ?_
  refine O.nil ?_
  refine J.block ?_
  refine J.nilRow 38 4 ?_
  refine J.loop (X := Nat × Value × List Cl) (fun ξ => ξ.1 ≤ l.length ∧ ξ.2.2 = (l.take ξ.1).filter p ∧ ξ.2.2.length ≤ ξ.1) (fun ξ => [(1, (.func (.func fid) #[] caps.toArray)), (4, Value.slice none 0 0), (5, ξ.2.1), (8, lv), (9, .int .i64 (l.length : Int)), (10, .int .i64 (ξ.1 : Int))]) (fun ξ => [row ξ.2.1 38 4 (ξ.2.2.map Cl.cells)]) (fun ξ => l.length - ξ.1) ⟨0, Value.slice none 0 0, []⟩ (show 0 ≤ l.length ∧ ([]) = (l.take 0).filter p ∧ ([]).length ≤ 0 from ⟨by omega, by simp, by simp⟩) ⟨rfl, rfl, rfl, rfl, rfl, (congrArg (fun z => some (Value.int .i64 z)) (by first | rfl | omega : (0 : Int) = (0 : Int))), trivial⟩ [0] (by decide) rfl ?_
  rintro ⟨k, V, out⟩ hq1
  obtain ⟨hk, hst, hlen⟩ : k ≤ l.length ∧ out = (l.take k).filter p ∧ out.length ≤ k := hq1
  show J _ _ [(1, (.func (.func fid) #[] caps.toArray)), (4, Value.slice none 0 0), (5, V), (8, lv), (9, .int .i64 (l.length : Int)), (10, .int .i64 (k : Int))] [row V 38 4 (out.map Cl.cells)]
  refine J.seq ?_
  refine J.region ?_
  refine O.p (Pu.lss rfl rfl) rfl ?_
  refine O.nil ?_
  refine J.seq ?_
  refine J.cond rfl (fun h2 => ?_) (fun h2 => ?_)
  ·
    have p3 := of_decide_eq_true h2
    refine J.skip ?_
    refine J.seq ?_
    refine J.block ?_
    refine J.seq ?_
    refine J.region ?_
    obtain ⟨e4, he4⟩ : ∃ x_, l[k]? = some x_ := ⟨_, List.getElem?_eq_getElem (by first | omega | (simp only [List.length_append, List.length_cons, List.length_nil]; omega))⟩
    refine O.q (Qt.idxM Tryd.runUnderlying24 Tryd.sizeOf38 rfl (Src.ro 0 rfl) rfl (by first | omega | (simp only [List.length_append, List.length_cons, List.length_nil]; omega)) (by first | omega | (simp only [List.length_append, List.length_cons, List.length_nil]; omega))) rfl ?_
    refine O.q (Qt.ld rfl (Cel.eltM (Src.ro 0 rfl) he4) (o := (voff lv + k * 4)) (off := 0) (by omega) (Cut.agg [.int .i64 e4.to, .int .i64 e4.tier, .int .i64 e4.weight, .int .i64 e4.most] Tryd.isAgg38 Tryd.sizeOf38 rfl rfl)) rfl ?_
    refine O.l (Lo.alloc [.int .i64 0, .int .i64 0, .int .i64 0, .int .i64 0] (by exact Tryd.zeroValue38) rfl) rfl ?_
    rintro _ _ ⟨g5, rfl, rfl⟩
    refine O.l0 (Lo.store 0 (vs := [.int .i64 e4.to, .int .i64 e4.tier, .int .i64 e4.weight, .int .i64 e4.most]) [.int .i64 e4.to, .int .i64 e4.tier, .int .i64 e4.weight, .int .i64 e4.most] rfl rfl rfl (by exact Tryd.sizeOf38) rfl rfl rfl rfl rfl) ?_
    rintro _ _ rfl
    refine O.nil ?_
    refine J.seq ?_
    refine J.region ?_
    refine O.p (Pu.move rfl) rfl ?_
    refine O.q (Qt.ld rfl (Cel.var 0 rfl) (o := 0) (off := 0) rfl (Cut.agg [.int .i64 e4.to, .int .i64 e4.tier, .int .i64 e4.weight, .int .i64 e4.most] Tryd.isAgg38 Tryd.sizeOf38 rfl rfl)) rfl ?_
    refine O.l (Lo.callV (vs := [.agg #[.int .i64 e4.to, .int .i64 e4.tier, .int .i64 e4.weight, .int .i64 e4.most]]) (caps := caps) hc rfl rfl (hF e4) [] [0, 1] (by decide) rfl [var g5 [.int .i64 e4.to, .int .i64 e4.tier, .int .i64 e4.weight, .int .i64 e4.most] 38, row V 38 4 (out.map Cl.cells)] rfl (RoOk.sub (fun _ hA => List.mem_cons_of_mem _ hA) [] rfl)) rfl ?_
    rintro _ _ ⟨_, ⟨rfl, rfl⟩, rfl⟩
    refine O.nil ?_
    refine J.cond rfl (fun h7 => ?_) (fun h7 => ?_)
    ·
      refine J.region ?_
      refine O.p (Pu.move rfl) rfl ?_
      refine O.q (Qt.ld rfl (Cel.var 0 rfl) (o := 0) (off := 0) rfl (Cut.agg [.int .i64 e4.to, .int .i64 e4.tier, .int .i64 e4.weight, .int .i64 e4.most] Tryd.isAgg38 Tryd.sizeOf38 rfl rfl)) rfl ?_
      refine O.l (Lo.buildM (s := 4) Cl.cells [e4] [(0, .agg #[.int .i64 e4.to, .int .i64 e4.tier, .int .i64 e4.weight, .int .i64 e4.most])] (by exact Tryd.runUnderlying24) (by exact Tryd.sizeOf38) (by exact Tryd.zeroValue38) rfl rfl rfl (by kernel_rfl) rfl rfl) rfl ?_
      rintro V8 _ rfl
      refine O.l (Lo.appendM (s := 4) 2 (by exact Tryd.underlying24) (by exact (info38).1) (by exact (info38).2.1) (by exact (info38).2.2.1) (by exact (info38).2.2.2) rfl rfl rfl rfl rfl (Src.row 0 rfl) Cl.one (by first | omega | (simp only [List.length_append, List.length_cons, List.length_nil]; omega)) (by first | omega | (simp only [List.length_append, List.length_cons, List.length_nil]; omega))) rfl ?_
      rintro V9 _ rfl
      refine O.p (Pu.assign rfl) rfl ?_
      refine O.nil ?_
      refine J.blk ?_
      refine J.region ?_
      refine O.p (Pu.add' rfl rfl (by first | omega | (simp only [List.length_append, List.length_cons, List.length_nil, List.length_set]; omega))) rfl ?_
      refine O.p (Pu.move rfl) rfl ?_
      refine O.nil ?_
      exact J.lp ⟨k + 1, V9, out ++ ([e4])⟩ (show (k + 1) ≤ l.length ∧ (out ++ ([e4])) = (l.take (k + 1)).filter p ∧ (out ++ ([e4])).length ≤ (k + 1) from ⟨by omega, (by rw [hst]; first | exact (Cf.sel_yes he4 (by assumption)).symm | exact (Cf.sel_no he4 (by assumption)).symm), by first | omega | (simp only [List.length_append, List.length_cons, List.length_nil]; omega)⟩) (show l.length - (k + 1) < l.length - k from (by first | omega | (simp only [List.length_append, List.length_cons, List.length_nil]; omega))) ⟨rfl, rfl, rfl, rfl, rfl, (congrArg (fun z => some (Value.int .i64 z)) (by first | rfl | omega : ((k : Int) + 1 : Int) = ((k + 1) : Int))), trivial⟩ [2] (by decide) rfl
    ·
      refine J.skip ?_
      refine J.blk ?_
      refine J.region ?_
      refine O.p (Pu.add' rfl rfl (by first | omega | (simp only [List.length_append, List.length_cons, List.length_nil, List.length_set]; omega))) rfl ?_
      refine O.p (Pu.move rfl) rfl ?_
      refine O.nil ?_
      exact J.lp ⟨k + 1, V, out⟩ (show (k + 1) ≤ l.length ∧ out = (l.take (k + 1)).filter p ∧ out.length ≤ (k + 1) from ⟨by omega, (by rw [hst]; first | exact (Cf.sel_yes he4 (by assumption)).symm | exact (Cf.sel_no he4 (by assumption)).symm), by first | omega | (simp only [List.length_append, List.length_cons, List.length_nil]; omega)⟩) (show l.length - (k + 1) < l.length - k from (by first | omega | (simp only [List.length_append, List.length_cons, List.length_nil]; omega))) ⟨rfl, rfl, rfl, rfl, rfl, (congrArg (fun z => some (Value.int .i64 z)) (by first | rfl | omega : ((k : Int) + 1 : Int) = ((k + 1) : Int))), trivial⟩ [1] (by decide) rfl
  ·
    have p10 := of_decide_eq_false h2
    refine J.exit _ rfl ?_
    refine J.seq ?_
    refine J.region ?_
    refine O.p (Pu.move rfl) rfl ?_
    refine O.p (Pu.assign rfl) rfl ?_
    refine O.nil ?_
    exact J.ret (Fin.ret (rs := [.tmp 4]) rfl [_] ⟨rfl, trivial⟩ [0] (by decide) [row V 38 4 (out.map Cl.cells)] rfl (congrArg (fun o => ([row V 38 4 (o.map Cl.cells)] : List Sp)) (show out = l.filter p from (by rw [hst]; exact Cf.sel_all (by omega)))))

set_option maxRecDepth 100000 in
theorem cf_Required (x0 x1 x2 x3 x4 x5 x6 x7 x8 x9 x10 x11 x12 : Int) (cv : Value) (cs : List Cl) (hl : cs.length ≤ 100000) : Tri Tryd.prog 21 #[.agg #[.int .i64 x0, .int .i64 x1, .int .i64 x2, .int .i64 x3, .int .i64 x4, .int .i64 x5, .int .i64 x6, .int .i64 x7, .int .i64 x8, .int .i64 x9, .int .i64 x10, .int .i64 x11, .int .i64 x12, cv]] [rd cv 4 (cs.map Cl.cells)] [] (fun v L' => L' = [row v 38 4 ((cs.filter (fun c => decide (c.tier = 0))).map Cl.cells)]) := by
  refine Tri.enter (args := [.agg #[.int .i64 x0, .int .i64 x1, .int .i64 x2, .int .i64 x3, .int .i64 x4, .int .i64 x5, .int .i64 x6, .int .i64 x7, .int .i64 x8, .int .i64 x9, .int .i64 x10, .int .i64 x11, .int .i64 x12, cv]]) (body := _) 6 Tryd.func21 rfl Tryd.ntmps21 rfl ?_
  intro w0
  refine J.seq ?_
  refine J.region ?_
  refine O.one (Src.ro 0 rfl) (fun hV2 => ?_)
  refine O.l (Lo.box [.int .i64 x0, .int .i64 x1, .int .i64 x2, .int .i64 x3, .int .i64 x4, .int .i64 x5, .int .i64 x6, .int .i64 x7, .int .i64 x8, .int .i64 x9, .int .i64 x10, .int .i64 x11, .int .i64 x12, cv] rfl rfl) rfl ?_
  rintro _ _ ⟨g1, rfl, rfl⟩
  refine O.p (Pu.assign rfl) rfl ?_
  refine O.nil ?_
  refine J.seq ?_
  refine J.region ?_
  refine O.p (Pu.fieldAddr (off' := 13) Tryd.runUnderlying26 rfl Tryd.sizeOf24 rfl rfl rfl) rfl ?_
  refine O.q (Qt.ld rfl (Cel.var 0 rfl) (o := 0) (off := 13) rfl (Cut.one Tryd.isAgg24 rfl)) rfl ?_
  refine O.l (Lo.call [cv, .func (.func 49) #[] #[]] (by exact Tryd.call48) rfl (cf_some 49 [] (fun c => decide (c.tier = 0)) [] cv cs (by exact (by exact Tryd.call49)) (fun e => cf_req1 e) (by omega)) [] [0] (by decide) rfl [var g1 [.int .i64 x0, .int .i64 x1, .int .i64 x2, .int .i64 x3, .int .i64 x4, .int .i64 x5, .int .i64 x6, .int .i64 x7, .int .i64 x8, .int .i64 x9, .int .i64 x10, .int .i64 x11, .int .i64 x12, cv] 26] rfl (RoOk.ro 0 rfl [] rfl RoOk.nil)) rfl ?_
  rintro v3 _ ⟨_, rfl, rfl⟩
  refine O.p (Pu.assign rfl) rfl ?_
  refine O.nil ?_
  exact J.ret (Fin.ret (rs := [.tmp 2]) rfl [_] ⟨rfl, trivial⟩ [0] (by decide) [row v3 38 4 ((cs.filter (fun c => decide (c.tier = 0))).map Cl.cells)] rfl rfl)

set_option maxRecDepth 100000 in
theorem cf_Optional (x0 x1 x2 x3 x4 x5 x6 x7 x8 x9 x10 x11 x12 : Int) (cv : Value) (cs : List Cl) (hl : cs.length ≤ 100000) : Tri Tryd.prog 22 #[.agg #[.int .i64 x0, .int .i64 x1, .int .i64 x2, .int .i64 x3, .int .i64 x4, .int .i64 x5, .int .i64 x6, .int .i64 x7, .int .i64 x8, .int .i64 x9, .int .i64 x10, .int .i64 x11, .int .i64 x12, cv]] [rd cv 4 (cs.map Cl.cells)] [] (fun v L' => L' = [row v 38 4 ((cs.filter (fun c => decide (c.tier ≠ 0))).map Cl.cells)]) := by
  refine Tri.enter (args := [.agg #[.int .i64 x0, .int .i64 x1, .int .i64 x2, .int .i64 x3, .int .i64 x4, .int .i64 x5, .int .i64 x6, .int .i64 x7, .int .i64 x8, .int .i64 x9, .int .i64 x10, .int .i64 x11, .int .i64 x12, cv]]) (body := _) 6 Tryd.func22 rfl Tryd.ntmps22 rfl ?_
  intro w0
  refine J.seq ?_
  refine J.region ?_
  refine O.one (Src.ro 0 rfl) (fun hV2 => ?_)
  refine O.l (Lo.box [.int .i64 x0, .int .i64 x1, .int .i64 x2, .int .i64 x3, .int .i64 x4, .int .i64 x5, .int .i64 x6, .int .i64 x7, .int .i64 x8, .int .i64 x9, .int .i64 x10, .int .i64 x11, .int .i64 x12, cv] rfl rfl) rfl ?_
  rintro _ _ ⟨g1, rfl, rfl⟩
  refine O.p (Pu.assign rfl) rfl ?_
  refine O.nil ?_
  refine J.seq ?_
  refine J.region ?_
  refine O.p (Pu.fieldAddr (off' := 13) Tryd.runUnderlying26 rfl Tryd.sizeOf24 rfl rfl rfl) rfl ?_
  refine O.q (Qt.ld rfl (Cel.var 0 rfl) (o := 0) (off := 13) rfl (Cut.one Tryd.isAgg24 rfl)) rfl ?_
  refine O.l (Lo.call [cv, .func (.func 50) #[] #[]] (by exact Tryd.call48) rfl (cf_some 50 [] (fun c => decide (c.tier ≠ 0)) [] cv cs (by exact (by exact Tryd.call50)) (fun e => cf_opt1 e) (by omega)) [] [0] (by decide) rfl [var g1 [.int .i64 x0, .int .i64 x1, .int .i64 x2, .int .i64 x3, .int .i64 x4, .int .i64 x5, .int .i64 x6, .int .i64 x7, .int .i64 x8, .int .i64 x9, .int .i64 x10, .int .i64 x11, .int .i64 x12, cv] 26] rfl (RoOk.ro 0 rfl [] rfl RoOk.nil)) rfl ?_
  rintro v3 _ ⟨_, rfl, rfl⟩
  refine O.p (Pu.assign rfl) rfl ?_
  refine O.nil ?_
  exact J.ret (Fin.ret (rs := [.tmp 2]) rfl [_] ⟨rfl, trivial⟩ [0] (by decide) [row v3 38 4 ((cs.filter (fun c => decide (c.tier ≠ 0))).map Cl.cells)] rfl rfl)

set_option maxRecDepth 100000 in
theorem r28_SameCalls (av bv : Value) (l m : List Cl) (hl : l.length ≤ 100000) (_hm : m.length ≤ 100000) : Tri Tryd.prog 25 #[av, bv] [rd av 4 (l.map Cl.cells), rd bv 4 (m.map Cl.cells)] [] (fun v L' => v = .bool (Cf.sameC l m) ∧ L' = []) := by
  refine Tri.enter (args := [av, bv]) (body := _) 32 Tryd.func25 rfl Tryd.ntmps25 rfl ?_
  intro w0
  refine J.seq ?_
  refine J.region ?_
  refine O.p (Pu.assign rfl) rfl ?_
  refine O.nil ?_
  refine J.seq ?_
  refine J.seq ?_
  refine J.region ?_
  refine O.p (Pu.move rfl) rfl ?_
  refine O.q (Qt.lenM Tryd.runUnderlying24 rfl (Src.ro 0 rfl)) rfl ?_
  refine O.p (Pu.move rfl) rfl ?_
  refine O.q (Qt.lenM Tryd.runUnderlying24 rfl (Src.ro 1 rfl)) rfl ?_
  refine O.p (Pu.neq rfl rfl) rfl ?_
  refine O.nil ?_
  refine J.cond rfl (fun h1 => ?_) (fun h1 => ?_)
  ·
    have p2 := of_decide_eq_true h1
    refine J.seq ?_
    refine J.region ?_
    refine O.p (Pu.assign rfl) rfl ?_
    refine O.nil ?_
    exact J.ret (Fin.ret (rs := [.tmp 4]) rfl [_] ⟨rfl, trivial⟩ [] (by decide) [] rfl ⟨(by rw [show Cf.sameC l m = false from decide_eq_false (Cf.eqP_len (by omega))]; rfl), rfl⟩)
  ·
    have p3 := of_decide_eq_false h1
    refine J.skip ?_
    refine J.seq ?_
    refine J.seq ?_
    refine J.region ?_
    refine O.p (Pu.assign rfl) rfl ?_
    refine O.nil ?_
    refine J.block ?_
    refine J.loop (X := Nat) (fun ξ => ξ ≤ l.length ∧ (l.take ξ).map Cf.clL = (m.take ξ).map Cf.clL) (fun ξ => [(0, av), (1, bv), (5, .int .i64 (ξ : Int))]) (fun ξ => []) (fun ξ => l.length - ξ) 0 (show 0 ≤ l.length ∧ (l.take 0).map Cf.clL = (m.take 0).map Cf.clL from ⟨by omega, rfl⟩) ⟨rfl, rfl, (congrArg (fun z => some (Value.int .i64 z)) (by first | rfl | omega : (0 : Int) = (0 : Int))), trivial⟩ [] (by decide) rfl ?_
    rintro k hq4
    obtain ⟨hk, hst⟩ : k ≤ l.length ∧ (l.take k).map Cf.clL = (m.take k).map Cf.clL := hq4
    show J _ _ [(0, av), (1, bv), (5, .int .i64 (k : Int))] []
    refine J.seq ?_
    refine J.seq ?_
    refine J.region ?_
    refine O.p (Pu.move rfl) rfl ?_
    refine O.p (Pu.move rfl) rfl ?_
    refine O.q (Qt.lenM Tryd.runUnderlying24 rfl (Src.ro 0 rfl)) rfl ?_
    refine O.p (Pu.lss rfl rfl) rfl ?_
    refine O.p (Pu.move rfl) rfl ?_
    refine by_bool (decide ((k : Int) < (l.length : Int))) (fun h5 => ?_) (fun h5 => ?_)
    ·
      have p6 := of_decide_eq_true h5
      refine O.gq (t := 15) rfl rfl h5 rfl (Pu.qt (Pu.move rfl)) rfl ?_
      refine O.gq (t := 15) rfl rfl h5 rfl (Pu.qt (Pu.move rfl)) rfl ?_
      refine O.gq (t := 15) rfl rfl h5 rfl (Qt.lenM Tryd.runUnderlying24 rfl (Src.ro 1 rfl)) rfl ?_
      refine O.gq (t := 15) rfl rfl h5 rfl (Pu.qt (Pu.lss rfl rfl)) rfl ?_
      refine O.p (Pu.pickT rfl h5 rfl) rfl ?_
      refine O.nil ?_
      refine J.cond rfl (fun h7 => ?_) (fun h7 => ?_)
      ·
        have p8 := of_decide_eq_true h7
        refine J.skip ?_
        refine J.seq ?_
        refine J.block ?_
        refine J.seq ?_
        refine J.drawStill Tryd.mixed (by kernel_rfl) ?_
        refine S.p (Pu.move rfl) rfl ?_
        refine S.p (Pu.move rfl) rfl ?_
        obtain ⟨e9, he9⟩ : ∃ x_, l[k]? = some x_ := ⟨_, List.getElem?_eq_getElem (by first | omega | (simp only [List.length_append, List.length_cons, List.length_nil, List.length_set]; omega))⟩
        refine S.q (Qt.idxM Tryd.runUnderlying24 Tryd.sizeOf38 rfl (Src.ro 0 rfl) rfl (by first | omega | (simp only [List.length_append, List.length_cons, List.length_nil, List.length_set]; omega)) (by first | omega | (simp only [List.length_append, List.length_cons, List.length_nil, List.length_set]; omega))) rfl ?_
        refine S.q (Qt.ld rfl (Cel.eltM (Src.ro 0 rfl) he9) (o := (voff av + k * 4)) (off := 0) (by omega) (Cut.agg [.int .i64 e9.to, .int .i64 e9.tier, .int .i64 e9.weight, .int .i64 e9.most] Tryd.isAgg38 Tryd.sizeOf38 rfl rfl)) rfl ?_
        refine S.p (Pu.move rfl) rfl ?_
        refine S.p (Pu.move rfl) rfl ?_
        obtain ⟨e10, he10⟩ : ∃ x_, m[k]? = some x_ := ⟨_, List.getElem?_eq_getElem (by first | omega | (simp only [List.length_append, List.length_cons, List.length_nil, List.length_set]; omega))⟩
        refine S.q (Qt.idxM Tryd.runUnderlying24 Tryd.sizeOf38 rfl (Src.ro 1 rfl) rfl (by first | omega | (simp only [List.length_append, List.length_cons, List.length_nil, List.length_set]; omega)) (by first | omega | (simp only [List.length_append, List.length_cons, List.length_nil, List.length_set]; omega))) rfl ?_
        refine S.q (Qt.ld rfl (Cel.eltM (Src.ro 1 rfl) he10) (o := (voff bv + k * 4)) (off := 0) (by omega) (Cut.agg [.int .i64 e10.to, .int .i64 e10.tier, .int .i64 e10.weight, .int .i64 e10.most] Tryd.isAgg38 Tryd.sizeOf38 rfl rfl)) rfl ?_
        refine S.p (Pu.neqI [e9.to, e9.tier, e9.weight, e9.most] [e10.to, e10.tier, e10.weight, e10.most] Tryd.underlying38 Tryd.stoodInHeld38 Tryd.eqGuardType38 (fint38 Tryd.underlying38) rfl rfl rfl rfl) rfl ?_
        refine S.endJ ?_
        refine J.cond rfl (fun h11 => ?_) (fun h11 => ?_)
        ·
          have h12 : (decide (([e9.to, e9.tier, e9.weight, e9.most] : List Int) = [e10.to, e10.tier, e10.weight, e10.most])) = false := not_flip h11
          have p13 := of_decide_eq_false h12
          refine J.seq ?_
          refine J.region ?_
          refine O.p (Pu.assign rfl) rfl ?_
          refine O.nil ?_
          exact J.ret (Fin.ret (rs := [.tmp 4]) rfl [_] ⟨rfl, trivial⟩ [] (by decide) [] rfl ⟨(by rw [show Cf.sameC l m = false from decide_eq_false (Cf.eqP_bad (f := Cf.clL) he9 he10 (by first | (simp only [Cf.one, Cf.clL, List.cons.injEq, and_true] at *; simp_all; done) | (simp only [Cf.clL] at *; simp_all; done)))]; rfl), rfl⟩)
        ·
          have h14 : (decide (([e9.to, e9.tier, e9.weight, e9.most] : List Int) = [e10.to, e10.tier, e10.weight, e10.most])) = true := not_flip h11
          have p15 := of_decide_eq_true h14
          refine J.skip ?_
          refine J.blk ?_
          refine J.region ?_
          refine O.p (Pu.move rfl) rfl ?_
          refine O.p (Pu.add' rfl rfl (by first | omega | (simp only [List.length_append, List.length_cons, List.length_nil, List.length_set]; omega))) rfl ?_
          refine O.p (Pu.assign rfl) rfl ?_
          refine O.nil ?_
          exact J.lp (k + 1) (show (k + 1) ≤ l.length ∧ (l.take (k + 1)).map Cf.clL = (m.take (k + 1)).map Cf.clL from ⟨by omega, Cf.eqP_next hst he9 he10 (by first | (simp only [Cf.one, Cf.clL, List.cons.injEq, and_true] at *; simp_all; done) | (simp only [Cf.clL] at *; simp_all; done))⟩) (show l.length - (k + 1) < l.length - k from (by first | omega | (simp only [List.length_append, List.length_cons, List.length_nil, List.length_set]; omega))) ⟨rfl, rfl, (congrArg (fun z => some (Value.int .i64 z)) (by first | rfl | omega : ((k : Int) + 1 : Int) = ((k + 1) : Int))), trivial⟩ [] (by decide) rfl
      ·
        have p16 := of_decide_eq_false h7
        refine J.exit _ rfl ?_
        refine J.seq ?_
        refine J.region ?_
        refine O.p (Pu.assign rfl) rfl ?_
        refine O.nil ?_
        exact J.ret (Fin.ret (rs := [.tmp 4]) rfl [_] ⟨rfl, trivial⟩ [] (by decide) [] rfl ⟨(by rw [show Cf.sameC l m = true from decide_eq_true (Cf.eqP_all hst (by omega) (by omega))]; rfl), rfl⟩)
    ·
      have p17 := of_decide_eq_false h5
      refine O.gskip (t := 15) rfl rfl (no_bool (by rw [h5]; decide)) rfl rfl ?_
      refine O.gskip (t := 15) rfl rfl (no_bool (by rw [h5]; decide)) rfl rfl ?_
      refine O.gskip (t := 15) rfl rfl (no_bool (by rw [h5]; decide)) rfl rfl ?_
      refine O.gskip (t := 15) rfl rfl (no_bool (by rw [h5]; decide)) rfl rfl ?_
      refine O.p (Pu.pickF rfl h5 rfl) rfl ?_
      refine O.nil ?_
      refine J.condF rfl rfl ?_
      refine J.exit _ rfl ?_
      refine J.seq ?_
      refine J.region ?_
      refine O.p (Pu.assign rfl) rfl ?_
      refine O.nil ?_
      exact J.ret (Fin.ret (rs := [.tmp 4]) rfl [_] ⟨rfl, trivial⟩ [] (by decide) [] rfl ⟨(by rw [show Cf.sameC l m = true from decide_eq_true (Cf.eqP_all hst (by omega) (by omega))]; rfl), rfl⟩)

set_option maxRecDepth 100000 in
set_option maxHeartbeats 1000000 in
theorem r28_Same (x0 x1 x2 x3 x4 x5 x6 x7 x8 x9 x10 x11 x12 : Int) (y0 y1 y2 y3 y4 y5 y6 y7 y8 y9 y10 y11 y12 : Int) (av bv : Value) (l m : List Cl) (hl : l.length ≤ 100000) (hm : m.length ≤ 100000) : Tri Tryd.prog 20 #[.agg #[.int .i64 x0, .int .i64 x1, .int .i64 x2, .int .i64 x3, .int .i64 x4, .int .i64 x5, .int .i64 x6, .int .i64 x7, .int .i64 x8, .int .i64 x9, .int .i64 x10, .int .i64 x11, .int .i64 x12, av], .agg #[.int .i64 y0, .int .i64 y1, .int .i64 y2, .int .i64 y3, .int .i64 y4, .int .i64 y5, .int .i64 y6, .int .i64 y7, .int .i64 y8, .int .i64 y9, .int .i64 y10, .int .i64 y11, .int .i64 y12, bv]] [rd av 4 (l.map Cl.cells), rd bv 4 (m.map Cl.cells)] [] (fun v L' => v = .bool (Cf.sameI [x0, x1, x2, x3, x4, x5, x6, x7, x8, x9, x10, x11, x12] [y0, y1, y2, y3, y4, y5, y6, y7, y8, y9, y10, y11, y12] && Cf.sameC l m) ∧ L' = []) := by
  refine Tri.enter (args := [.agg #[.int .i64 x0, .int .i64 x1, .int .i64 x2, .int .i64 x3, .int .i64 x4, .int .i64 x5, .int .i64 x6, .int .i64 x7, .int .i64 x8, .int .i64 x9, .int .i64 x10, .int .i64 x11, .int .i64 x12, av], .agg #[.int .i64 y0, .int .i64 y1, .int .i64 y2, .int .i64 y3, .int .i64 y4, .int .i64 y5, .int .i64 y6, .int .i64 y7, .int .i64 y8, .int .i64 y9, .int .i64 y10, .int .i64 y11, .int .i64 y12, bv]]) (body := _) 32 Tryd.func20 rfl Tryd.ntmps20 rfl ?_
  intro w0
  refine J.seq ?_
  refine J.region ?_
  refine O.one (Src.ro 0 rfl) (fun hV2 => ?_)
  refine O.l (Lo.box [.int .i64 x0, .int .i64 x1, .int .i64 x2, .int .i64 x3, .int .i64 x4, .int .i64 x5, .int .i64 x6, .int .i64 x7, .int .i64 x8, .int .i64 x9, .int .i64 x10, .int .i64 x11, .int .i64 x12, av] rfl rfl) rfl ?_
  rintro _ _ ⟨g1, rfl, rfl⟩
  refine O.one (Src.ro 1 rfl) (fun hV4 => ?_)
  refine O.l (Lo.box [.int .i64 y0, .int .i64 y1, .int .i64 y2, .int .i64 y3, .int .i64 y4, .int .i64 y5, .int .i64 y6, .int .i64 y7, .int .i64 y8, .int .i64 y9, .int .i64 y10, .int .i64 y11, .int .i64 y12, bv] rfl rfl) rfl ?_
  rintro _ _ ⟨g3, rfl, rfl⟩
  refine O.p (Pu.assign rfl) rfl ?_
  refine O.nil ?_
  refine J.seq ?_
  refine J.drawMix [(0, false), (2, false), (1, true), (3, true), (4, false), (5, false)] [0, 1] [var g3 [.int .i64 y0, .int .i64 y1, .int .i64 y2, .int .i64 y3, .int .i64 y4, .int .i64 y5, .int .i64 y6, .int .i64 y7, .int .i64 y8, .int .i64 y9, .int .i64 y10, .int .i64 y11, .int .i64 y12, bv] 26, var g1 [.int .i64 x0, .int .i64 x1, .int .i64 x2, .int .i64 x3, .int .i64 x4, .int .i64 x5, .int .i64 x6, .int .i64 x7, .int .i64 x8, .int .i64 x9, .int .i64 x10, .int .i64 x11, .int .i64 x12, av] 26] Tryd.mixed (by kernel_rfl) (by decide) rfl ?_
  refine Mx.q rfl (Qt.ld rfl (Cel.var 1 rfl) (o := 0) (off := 0) rfl (Cut.agg [.int .i64 x0, .int .i64 x1, .int .i64 x2, .int .i64 x3, .int .i64 x4, .int .i64 x5, .int .i64 x6, .int .i64 x7, .int .i64 x8, .int .i64 x9, .int .i64 x10, .int .i64 x11, .int .i64 x12, av] Tryd.isAgg26 Tryd.sizeOf26 rfl rfl)) rfl ?_
  refine Mx.q rfl (Qt.ld rfl (Cel.var 0 rfl) (o := 0) (off := 0) rfl (Cut.agg [.int .i64 y0, .int .i64 y1, .int .i64 y2, .int .i64 y3, .int .i64 y4, .int .i64 y5, .int .i64 y6, .int .i64 y7, .int .i64 y8, .int .i64 y9, .int .i64 y10, .int .i64 y11, .int .i64 y12, bv] Tryd.isAgg26 Tryd.sizeOf26 rfl rfl)) rfl ?_
  refine Mx.l rfl (Lo.call [.agg #[.int .i64 x0, .int .i64 x1, .int .i64 x2, .int .i64 x3, .int .i64 x4, .int .i64 x5, .int .i64 x6, .int .i64 x7, .int .i64 x8, .int .i64 x9, .int .i64 x10, .int .i64 x11, .int .i64 x12, av]] (by exact Tryd.call44) rfl (r28_numbers x0 x1 x2 x3 x4 x5 x6 x7 x8 x9 x10 x11 x12 av l) [] [0, 1] (by decide) rfl [var g3 [.int .i64 y0, .int .i64 y1, .int .i64 y2, .int .i64 y3, .int .i64 y4, .int .i64 y5, .int .i64 y6, .int .i64 y7, .int .i64 y8, .int .i64 y9, .int .i64 y10, .int .i64 y11, .int .i64 y12, bv] 26, var g1 [.int .i64 x0, .int .i64 x1, .int .i64 x2, .int .i64 x3, .int .i64 x4, .int .i64 x5, .int .i64 x6, .int .i64 x7, .int .i64 x8, .int .i64 x9, .int .i64 x10, .int .i64 x11, .int .i64 x12, av] 26] rfl (RoOk.ro 0 rfl [] rfl RoOk.nil)) rfl ?_
  rintro v5 _ ⟨_, rfl, rfl⟩
  refine MxK.go [1, 2] [0, 1] [var g3 [.int .i64 y0, .int .i64 y1, .int .i64 y2, .int .i64 y3, .int .i64 y4, .int .i64 y5, .int .i64 y6, .int .i64 y7, .int .i64 y8, .int .i64 y9, .int .i64 y10, .int .i64 y11, .int .i64 y12, bv] 26, var g1 [.int .i64 x0, .int .i64 x1, .int .i64 x2, .int .i64 x3, .int .i64 x4, .int .i64 x5, .int .i64 x6, .int .i64 x7, .int .i64 x8, .int .i64 x9, .int .i64 x10, .int .i64 x11, .int .i64 x12, av] 26] (by decide) rfl (by decide) rfl ?_
  refine Mx.l rfl (Lo.call [.agg #[.int .i64 y0, .int .i64 y1, .int .i64 y2, .int .i64 y3, .int .i64 y4, .int .i64 y5, .int .i64 y6, .int .i64 y7, .int .i64 y8, .int .i64 y9, .int .i64 y10, .int .i64 y11, .int .i64 y12, bv]] (by exact Tryd.call44) rfl (r28_numbers y0 y1 y2 y3 y4 y5 y6 y7 y8 y9 y10 y11 y12 bv m) [] [0, 1, 2] (by decide) rfl [row v5 3 1 (([x0, x1, x2, x3, x4, x5, x6, x7, x8, x9, x10, x11, x12]).map encZ), var g3 [.int .i64 y0, .int .i64 y1, .int .i64 y2, .int .i64 y3, .int .i64 y4, .int .i64 y5, .int .i64 y6, .int .i64 y7, .int .i64 y8, .int .i64 y9, .int .i64 y10, .int .i64 y11, .int .i64 y12, bv] 26, var g1 [.int .i64 x0, .int .i64 x1, .int .i64 x2, .int .i64 x3, .int .i64 x4, .int .i64 x5, .int .i64 x6, .int .i64 x7, .int .i64 x8, .int .i64 x9, .int .i64 x10, .int .i64 x11, .int .i64 x12, av] 26] rfl (RoOk.ro 1 rfl [] rfl RoOk.nil)) rfl ?_
  rintro v6 _ ⟨_, rfl, rfl⟩
  refine MxK.all [2, 3] [var g3 [.int .i64 y0, .int .i64 y1, .int .i64 y2, .int .i64 y3, .int .i64 y4, .int .i64 y5, .int .i64 y6, .int .i64 y7, .int .i64 y8, .int .i64 y9, .int .i64 y10, .int .i64 y11, .int .i64 y12, bv] 26, var g1 [.int .i64 x0, .int .i64 x1, .int .i64 x2, .int .i64 x3, .int .i64 x4, .int .i64 x5, .int .i64 x6, .int .i64 x7, .int .i64 x8, .int .i64 x9, .int .i64 x10, .int .i64 x11, .int .i64 x12, av] 26] (by decide) rfl (by kernel_rfl) ?_
  refine Mx.p rfl (Pu.assign rfl) rfl ?_
  refine Mx.p rfl (Pu.assign rfl) rfl ?_
  refine Mx.nil ?_
  refine J.seq ?_
  refine J.seq ?_
  refine J.region ?_
  refine O.p (Pu.assign rfl) rfl ?_
  refine O.nil ?_
  refine J.block ?_
  refine J.loop (X := Nat) (fun ξ => ξ ≤ 13 ∧ (([x0, x1, x2, x3, x4, x5, x6, x7, x8, x9, x10, x11, x12] : List Int).take ξ).map Cf.one = (([y0, y1, y2, y3, y4, y5, y6, y7, y8, y9, y10, y11, y12] : List Int).take ξ).map Cf.one) (fun ξ => [(2, .pointer (some ⟨g1, 0, none⟩)), (3, .pointer (some ⟨g3, 0, none⟩)), (5, v5), (6, v6), (7, .int .i64 (ξ : Int))]) (fun ξ => [var g1 [.int .i64 x0, .int .i64 x1, .int .i64 x2, .int .i64 x3, .int .i64 x4, .int .i64 x5, .int .i64 x6, .int .i64 x7, .int .i64 x8, .int .i64 x9, .int .i64 x10, .int .i64 x11, .int .i64 x12, av] 26, var g3 [.int .i64 y0, .int .i64 y1, .int .i64 y2, .int .i64 y3, .int .i64 y4, .int .i64 y5, .int .i64 y6, .int .i64 y7, .int .i64 y8, .int .i64 y9, .int .i64 y10, .int .i64 y11, .int .i64 y12, bv] 26, row v5 3 1 (([x0, x1, x2, x3, x4, x5, x6, x7, x8, x9, x10, x11, x12]).map encZ), row v6 3 1 (([y0, y1, y2, y3, y4, y5, y6, y7, y8, y9, y10, y11, y12]).map encZ)]) (fun ξ => 13 - ξ) 0 (show 0 ≤ 13 ∧ (([x0, x1, x2, x3, x4, x5, x6, x7, x8, x9, x10, x11, x12] : List Int).take 0).map Cf.one = (([y0, y1, y2, y3, y4, y5, y6, y7, y8, y9, y10, y11, y12] : List Int).take 0).map Cf.one from ⟨by omega, rfl⟩) ⟨rfl, rfl, rfl, rfl, (congrArg (fun z => some (Value.int .i64 z)) (by first | rfl | omega : (0 : Int) = (0 : Int))), trivial⟩ [3, 2, 1, 0] (by decide) rfl ?_
  rintro k hq7
  obtain ⟨hk, hst⟩ : k ≤ 13 ∧ (([x0, x1, x2, x3, x4, x5, x6, x7, x8, x9, x10, x11, x12] : List Int).take k).map Cf.one = (([y0, y1, y2, y3, y4, y5, y6, y7, y8, y9, y10, y11, y12] : List Int).take k).map Cf.one := hq7
  show J _ _ [(2, .pointer (some ⟨g1, 0, none⟩)), (3, .pointer (some ⟨g3, 0, none⟩)), (5, v5), (6, v6), (7, .int .i64 (k : Int))] [var g1 [.int .i64 x0, .int .i64 x1, .int .i64 x2, .int .i64 x3, .int .i64 x4, .int .i64 x5, .int .i64 x6, .int .i64 x7, .int .i64 x8, .int .i64 x9, .int .i64 x10, .int .i64 x11, .int .i64 x12, av] 26, var g3 [.int .i64 y0, .int .i64 y1, .int .i64 y2, .int .i64 y3, .int .i64 y4, .int .i64 y5, .int .i64 y6, .int .i64 y7, .int .i64 y8, .int .i64 y9, .int .i64 y10, .int .i64 y11, .int .i64 y12, bv] 26, row v5 3 1 (([x0, x1, x2, x3, x4, x5, x6, x7, x8, x9, x10, x11, x12]).map encZ), row v6 3 1 (([y0, y1, y2, y3, y4, y5, y6, y7, y8, y9, y10, y11, y12]).map encZ)]
  refine J.seq ?_
  refine J.seq ?_
  refine J.region ?_
  refine O.p (Pu.move rfl) rfl ?_
  refine O.p (Pu.move rfl) rfl ?_
  refine O.q (Qt.lenM Tryd.runUnderlying30 rfl (Src.row 2 rfl)) rfl ?_
  refine O.p (Pu.lss rfl rfl) rfl ?_
  refine O.nil ?_
  refine J.cond rfl (fun h8 => ?_) (fun h8 => ?_)
  ·
    have p9 := of_decide_eq_true h8
    refine J.skip ?_
    refine J.seq ?_
    refine J.block ?_
    refine J.seq ?_
    refine J.drawStill Tryd.mixed (by kernel_rfl) ?_
    refine S.p (Pu.move rfl) rfl ?_
    refine S.p (Pu.move rfl) rfl ?_
    obtain ⟨e10, he10⟩ : ∃ x_, ([x0, x1, x2, x3, x4, x5, x6, x7, x8, x9, x10, x11, x12])[k]? = some x_ := ⟨_, List.getElem?_eq_getElem (by first | omega | (simp only [List.length_cons, List.length_nil] at *; omega))⟩
    refine S.q (Qt.idxM Tryd.runUnderlying30 Tryd.sizeOf3 rfl (Src.row 2 rfl) rfl (by first | omega | (simp only [List.length_cons, List.length_nil] at *; omega)) (by first | omega | (simp only [List.length_cons, List.length_nil] at *; omega))) rfl ?_
    refine S.q (Qt.ld rfl (Cel.eltM (Src.row 2 rfl) he10) (o := (voff v5 + k * 1)) (off := 0) (by omega) (Cut.one Tryd.isAgg3 rfl)) rfl ?_
    refine S.p (Pu.move rfl) rfl ?_
    refine S.p (Pu.move rfl) rfl ?_
    obtain ⟨e11, he11⟩ : ∃ x_, ([y0, y1, y2, y3, y4, y5, y6, y7, y8, y9, y10, y11, y12])[k]? = some x_ := ⟨_, List.getElem?_eq_getElem (by first | omega | (simp only [List.length_cons, List.length_nil] at *; omega))⟩
    refine S.q (Qt.idxM Tryd.runUnderlying30 Tryd.sizeOf3 rfl (Src.row 3 rfl) rfl (by first | omega | (simp only [List.length_cons, List.length_nil] at *; omega)) (by first | omega | (simp only [List.length_cons, List.length_nil] at *; omega))) rfl ?_
    refine S.q (Qt.ld rfl (Cel.eltM (Src.row 3 rfl) he11) (o := (voff v6 + k * 1)) (off := 0) (by omega) (Cut.one Tryd.isAgg3 rfl)) rfl ?_
    refine S.p (Pu.neq rfl rfl) rfl ?_
    refine S.endJ ?_
    refine J.cond rfl (fun h12 => ?_) (fun h12 => ?_)
    ·
      have p13 := of_decide_eq_true h12
      refine J.seq ?_
      refine J.region ?_
      refine O.p (Pu.assign rfl) rfl ?_
      refine O.nil ?_
      exact J.ret (Fin.ret (rs := [.tmp 4]) rfl [_] ⟨rfl, trivial⟩ [] (by decide) [] rfl ⟨(by rw [show Cf.sameI [x0, x1, x2, x3, x4, x5, x6, x7, x8, x9, x10, x11, x12] [y0, y1, y2, y3, y4, y5, y6, y7, y8, y9, y10, y11, y12] = false from decide_eq_false (Cf.eqP_bad (f := Cf.one) he10 he11 (by simp only [Cf.one, List.cons.injEq, and_true] at *; simp_all; done))]; rfl), rfl⟩)
    ·
      have p14 := of_decide_eq_false h12
      refine J.skip ?_
      refine J.blk ?_
      refine J.region ?_
      refine O.p (Pu.move rfl) rfl ?_
      refine O.p (Pu.add' rfl rfl (by first | omega | (simp only [List.length_append, List.length_cons, List.length_nil, List.length_set]; omega))) rfl ?_
      refine O.p (Pu.assign rfl) rfl ?_
      refine O.nil ?_
      exact J.lp (k + 1) (show (k + 1) ≤ 13 ∧ (([x0, x1, x2, x3, x4, x5, x6, x7, x8, x9, x10, x11, x12] : List Int).take (k + 1)).map Cf.one = (([y0, y1, y2, y3, y4, y5, y6, y7, y8, y9, y10, y11, y12] : List Int).take (k + 1)).map Cf.one from ⟨(by simp only [List.length_cons, List.length_nil] at *; omega), Cf.eqP_next hst he10 he11 (by simp only [Cf.one, List.cons.injEq, and_true] at *; simp_all; done)⟩) (show 13 - (k + 1) < 13 - k from (by first | omega | (simp only [List.length_cons, List.length_nil] at *; omega))) ⟨rfl, rfl, rfl, rfl, (congrArg (fun z => some (Value.int .i64 z)) (by first | rfl | omega : ((k : Int) + 1 : Int) = ((k + 1) : Int))), trivial⟩ [0, 1, 2, 3] (by decide) rfl
  ·
    have p15 := of_decide_eq_false h8
    refine J.exit _ rfl ?_
    refine J.seq ?_
    refine J.region ?_
    refine O.p (Pu.fieldAddr (off' := 13) Tryd.runUnderlying26 rfl Tryd.sizeOf24 rfl rfl rfl) rfl ?_
    refine O.q (Qt.ld rfl (Cel.var 0 rfl) (o := 0) (off := 13) rfl (Cut.one Tryd.isAgg24 rfl)) rfl ?_
    refine O.p (Pu.fieldAddr (off' := 13) Tryd.runUnderlying26 rfl Tryd.sizeOf24 rfl rfl rfl) rfl ?_
    refine O.q (Qt.ld rfl (Cel.var 1 rfl) (o := 0) (off := 13) rfl (Cut.one Tryd.isAgg24 rfl)) rfl ?_
    refine O.l (Lo.call [av, bv] (by exact Tryd.call25) rfl (r28_SameCalls av bv l m (by omega) (by omega)) [] [0, 1, 2, 3] (by decide) rfl [var g1 [.int .i64 x0, .int .i64 x1, .int .i64 x2, .int .i64 x3, .int .i64 x4, .int .i64 x5, .int .i64 x6, .int .i64 x7, .int .i64 x8, .int .i64 x9, .int .i64 x10, .int .i64 x11, .int .i64 x12, av] 26, var g3 [.int .i64 y0, .int .i64 y1, .int .i64 y2, .int .i64 y3, .int .i64 y4, .int .i64 y5, .int .i64 y6, .int .i64 y7, .int .i64 y8, .int .i64 y9, .int .i64 y10, .int .i64 y11, .int .i64 y12, bv] 26, row v5 3 1 (([x0, x1, x2, x3, x4, x5, x6, x7, x8, x9, x10, x11, x12]).map encZ), row v6 3 1 (([y0, y1, y2, y3, y4, y5, y6, y7, y8, y9, y10, y11, y12]).map encZ)] rfl (RoOk.ro 0 rfl [] rfl (RoOk.ro 1 rfl [] rfl RoOk.nil))) rfl ?_
    rintro _ _ ⟨_, ⟨rfl, rfl⟩, rfl⟩
    refine O.p (Pu.assign rfl) rfl ?_
    refine O.nil ?_
    exact J.ret (Fin.ret (rs := [.tmp 4]) rfl [_] ⟨rfl, trivial⟩ [] (by decide) [] rfl ⟨(by rw [show Cf.sameI [x0, x1, x2, x3, x4, x5, x6, x7, x8, x9, x10, x11, x12] [y0, y1, y2, y3, y4, y5, y6, y7, y8, y9, y10, y11, y12] = true from decide_eq_true (Cf.eqP_all hst (by simp only [List.length_cons, List.length_nil] at *; omega) (by simp only [List.length_cons, List.length_nil] at *; omega))]; rfl), rfl⟩)

set_option maxRecDepth 100000 in
theorem sl_Equal_int (av bv : Value) (l m : List Int) (hl : l.length ≤ 100000) (_hm : m.length ≤ 100000) : Tri Tryd.prog 57 #[av, bv] [rd av 1 (l.map encZ), rd bv 1 (m.map encZ)] [] (fun v L' => v = .bool (Cf.sameI l m) ∧ L' = []) := by
  refine Tri.enter (args := [av, bv]) (body := _) 26 Tryd.func57 rfl Tryd.ntmps57 rfl ?_
  intro w0
  refine J.seq ?_
  refine J.region ?_
  refine O.p (Pu.assign rfl) rfl ?_
  refine O.nil ?_
  refine J.seq ?_
  refine J.seq ?_
  refine J.region ?_
  refine O.p (Pu.move rfl) rfl ?_
  refine O.q (Qt.lenM Tryd.runUnderlying30 rfl (Src.ro 0 rfl)) rfl ?_
  refine O.p (Pu.move rfl) rfl ?_
  refine O.q (Qt.lenM Tryd.runUnderlying30 rfl (Src.ro 1 rfl)) rfl ?_
  refine O.p (Pu.neq rfl rfl) rfl ?_
  refine O.nil ?_
  refine J.cond rfl (fun h1 => ?_) (fun h1 => ?_)
  ·
    have p2 := of_decide_eq_true h1
    refine J.seq ?_
    refine J.region ?_
    refine O.p (Pu.assign rfl) rfl ?_
    refine O.nil ?_
    exact J.ret (Fin.ret (rs := [.tmp 4]) rfl [_] ⟨rfl, trivial⟩ [] (by decide) [] rfl ⟨(by rw [show Cf.sameI l m = false from decide_eq_false (Cf.eqP_len (by omega))]; rfl), rfl⟩)
  ·
    have p3 := of_decide_eq_false h1
    refine J.skip ?_
    refine J.seq ?_
    refine J.seq ?_
    refine J.region ?_
    refine O.p (Pu.move rfl) rfl ?_
    refine O.q (Qt.lenM Tryd.runUnderlying30 rfl (Src.ro 0 rfl)) rfl ?_
    refine O.p (Pu.move rfl) rfl ?_
    refine O.nil ?_
    refine J.block ?_
    refine J.loop (X := Nat) (fun ξ => ξ ≤ l.length ∧ (l.take ξ).map Cf.one = (m.take ξ).map Cf.one) (fun ξ => [(0, av), (1, bv), (12, .int .i64 (l.length : Int)), (13, .int .i64 (ξ : Int))]) (fun ξ => []) (fun ξ => l.length - ξ) 0 (show 0 ≤ l.length ∧ (l.take 0).map Cf.one = (m.take 0).map Cf.one from ⟨by omega, rfl⟩) ⟨rfl, rfl, rfl, (congrArg (fun z => some (Value.int .i64 z)) (by first | rfl | omega : (0 : Int) = (0 : Int))), trivial⟩ [] (by decide) rfl ?_
    rintro k hq4
    obtain ⟨hk, hst⟩ : k ≤ l.length ∧ (l.take k).map Cf.one = (m.take k).map Cf.one := hq4
    show J _ _ [(0, av), (1, bv), (12, .int .i64 (l.length : Int)), (13, .int .i64 (k : Int))] []
    refine J.seq ?_
    refine J.region ?_
    refine O.p (Pu.lss rfl rfl) rfl ?_
    refine O.nil ?_
    refine J.seq ?_
    refine J.cond rfl (fun h5 => ?_) (fun h5 => ?_)
    ·
      have p6 := of_decide_eq_true h5
      refine J.skip ?_
      refine J.seq ?_
      refine J.block ?_
      refine J.seq ?_
      refine J.region ?_
      refine O.p (Pu.move rfl) rfl ?_
      refine O.p (Pu.assign rfl) rfl ?_
      refine O.nil ?_
      refine J.seq ?_
      refine J.drawStill Tryd.mixed (by kernel_rfl) ?_
      refine S.p (Pu.move rfl) rfl ?_
      refine S.p (Pu.move rfl) rfl ?_
      obtain ⟨e7, he7⟩ : ∃ x_, l[k]? = some x_ := ⟨_, List.getElem?_eq_getElem (by first | omega | (simp only [List.length_append, List.length_cons, List.length_nil, List.length_set]; omega))⟩
      refine S.q (Qt.idxM Tryd.runUnderlying30 Tryd.sizeOf3 rfl (Src.ro 0 rfl) rfl (by first | omega | (simp only [List.length_append, List.length_cons, List.length_nil, List.length_set]; omega)) (by first | omega | (simp only [List.length_append, List.length_cons, List.length_nil, List.length_set]; omega))) rfl ?_
      refine S.q (Qt.ld rfl (Cel.eltM (Src.ro 0 rfl) he7) (o := (voff av + k * 1)) (off := 0) (by omega) (Cut.one Tryd.isAgg3 rfl)) rfl ?_
      refine S.p (Pu.move rfl) rfl ?_
      refine S.p (Pu.move rfl) rfl ?_
      obtain ⟨e8, he8⟩ : ∃ x_, m[k]? = some x_ := ⟨_, List.getElem?_eq_getElem (by first | omega | (simp only [List.length_append, List.length_cons, List.length_nil, List.length_set]; omega))⟩
      refine S.q (Qt.idxM Tryd.runUnderlying30 Tryd.sizeOf3 rfl (Src.ro 1 rfl) rfl (by first | omega | (simp only [List.length_append, List.length_cons, List.length_nil, List.length_set]; omega)) (by first | omega | (simp only [List.length_append, List.length_cons, List.length_nil, List.length_set]; omega))) rfl ?_
      refine S.q (Qt.ld rfl (Cel.eltM (Src.ro 1 rfl) he8) (o := (voff bv + k * 1)) (off := 0) (by omega) (Cut.one Tryd.isAgg3 rfl)) rfl ?_
      refine S.p (Pu.neq rfl rfl) rfl ?_
      refine S.endJ ?_
      refine J.cond rfl (fun h9 => ?_) (fun h9 => ?_)
      ·
        have p10 := of_decide_eq_true h9
        refine J.seq ?_
        refine J.region ?_
        refine O.p (Pu.assign rfl) rfl ?_
        refine O.nil ?_
        exact J.ret (Fin.ret (rs := [.tmp 4]) rfl [_] ⟨rfl, trivial⟩ [] (by decide) [] rfl ⟨(by rw [show Cf.sameI l m = false from decide_eq_false (Cf.eqP_bad (f := Cf.one) he7 he8 (by first | (simp only [Cf.one, Cf.clL, List.cons.injEq, and_true] at *; simp_all; done) | (simp only [Cf.clL] at *; simp_all; done)))]; rfl), rfl⟩)
      ·
        have p11 := of_decide_eq_false h9
        refine J.skip ?_
        refine J.blk ?_
        refine J.region ?_
        refine O.p (Pu.add' rfl rfl (by first | omega | (simp only [List.length_append, List.length_cons, List.length_nil, List.length_set]; omega))) rfl ?_
        refine O.p (Pu.move rfl) rfl ?_
        refine O.nil ?_
        exact J.lp (k + 1) (show (k + 1) ≤ l.length ∧ (l.take (k + 1)).map Cf.one = (m.take (k + 1)).map Cf.one from ⟨by omega, Cf.eqP_next hst he7 he8 (by first | (simp only [Cf.one, Cf.clL, List.cons.injEq, and_true] at *; simp_all; done) | (simp only [Cf.clL] at *; simp_all; done))⟩) (show l.length - (k + 1) < l.length - k from (by first | omega | (simp only [List.length_append, List.length_cons, List.length_nil, List.length_set]; omega))) ⟨rfl, rfl, rfl, (congrArg (fun z => some (Value.int .i64 z)) (by first | rfl | omega : ((k : Int) + 1 : Int) = ((k + 1) : Int))), trivial⟩ [] (by decide) rfl
    ·
      have p12 := of_decide_eq_false h5
      refine J.exit _ rfl ?_
      refine J.seq ?_
      refine J.region ?_
      refine O.p (Pu.assign rfl) rfl ?_
      refine O.nil ?_
      exact J.ret (Fin.ret (rs := [.tmp 4]) rfl [_] ⟨rfl, trivial⟩ [] (by decide) [] rfl ⟨(by rw [show Cf.sameI l m = true from decide_eq_true (Cf.eqP_all hst (by omega) (by omega))]; rfl), rfl⟩)

set_option maxRecDepth 100000 in
theorem sl_Equal_Call (av bv : Value) (l m : List Cl) (hl : l.length ≤ 100000) (_hm : m.length ≤ 100000) : Tri Tryd.prog 58 #[av, bv] [rd av 4 (l.map Cl.cells), rd bv 4 (m.map Cl.cells)] [] (fun v L' => v = .bool (Cf.sameC l m) ∧ L' = []) := by
  refine Tri.enter (args := [av, bv]) (body := _) 26 Tryd.func58 rfl Tryd.ntmps58 rfl ?_
  intro w0
  refine J.seq ?_
  refine J.region ?_
  refine O.p (Pu.assign rfl) rfl ?_
  refine O.nil ?_
  refine J.seq ?_
  refine J.seq ?_
  refine J.region ?_
  refine O.p (Pu.move rfl) rfl ?_
  refine O.q (Qt.lenM Tryd.runUnderlying24 rfl (Src.ro 0 rfl)) rfl ?_
  refine O.p (Pu.move rfl) rfl ?_
  refine O.q (Qt.lenM Tryd.runUnderlying24 rfl (Src.ro 1 rfl)) rfl ?_
  refine O.p (Pu.neq rfl rfl) rfl ?_
  refine O.nil ?_
  refine J.cond rfl (fun h1 => ?_) (fun h1 => ?_)
  ·
    have p2 := of_decide_eq_true h1
    refine J.seq ?_
    refine J.region ?_
    refine O.p (Pu.assign rfl) rfl ?_
    refine O.nil ?_
    exact J.ret (Fin.ret (rs := [.tmp 4]) rfl [_] ⟨rfl, trivial⟩ [] (by decide) [] rfl ⟨(by rw [show Cf.sameC l m = false from decide_eq_false (Cf.eqP_len (by omega))]; rfl), rfl⟩)
  ·
    have p3 := of_decide_eq_false h1
    refine J.skip ?_
    refine J.seq ?_
    refine J.seq ?_
    refine J.region ?_
    refine O.p (Pu.move rfl) rfl ?_
    refine O.q (Qt.lenM Tryd.runUnderlying24 rfl (Src.ro 0 rfl)) rfl ?_
    refine O.p (Pu.move rfl) rfl ?_
    refine O.nil ?_
    refine J.block ?_
    refine J.loop (X := Nat) (fun ξ => ξ ≤ l.length ∧ (l.take ξ).map Cf.clL = (m.take ξ).map Cf.clL) (fun ξ => [(0, av), (1, bv), (12, .int .i64 (l.length : Int)), (13, .int .i64 (ξ : Int))]) (fun ξ => []) (fun ξ => l.length - ξ) 0 (show 0 ≤ l.length ∧ (l.take 0).map Cf.clL = (m.take 0).map Cf.clL from ⟨by omega, rfl⟩) ⟨rfl, rfl, rfl, (congrArg (fun z => some (Value.int .i64 z)) (by first | rfl | omega : (0 : Int) = (0 : Int))), trivial⟩ [] (by decide) rfl ?_
    rintro k hq4
    obtain ⟨hk, hst⟩ : k ≤ l.length ∧ (l.take k).map Cf.clL = (m.take k).map Cf.clL := hq4
    show J _ _ [(0, av), (1, bv), (12, .int .i64 (l.length : Int)), (13, .int .i64 (k : Int))] []
    refine J.seq ?_
    refine J.region ?_
    refine O.p (Pu.lss rfl rfl) rfl ?_
    refine O.nil ?_
    refine J.seq ?_
    refine J.cond rfl (fun h5 => ?_) (fun h5 => ?_)
    ·
      have p6 := of_decide_eq_true h5
      refine J.skip ?_
      refine J.seq ?_
      refine J.block ?_
      refine J.seq ?_
      refine J.region ?_
      refine O.p (Pu.move rfl) rfl ?_
      refine O.p (Pu.assign rfl) rfl ?_
      refine O.nil ?_
      refine J.seq ?_
      refine J.drawStill Tryd.mixed (by kernel_rfl) ?_
      refine S.p (Pu.move rfl) rfl ?_
      refine S.p (Pu.move rfl) rfl ?_
      obtain ⟨e7, he7⟩ : ∃ x_, l[k]? = some x_ := ⟨_, List.getElem?_eq_getElem (by first | omega | (simp only [List.length_append, List.length_cons, List.length_nil, List.length_set]; omega))⟩
      refine S.q (Qt.idxM Tryd.runUnderlying24 Tryd.sizeOf38 rfl (Src.ro 0 rfl) rfl (by first | omega | (simp only [List.length_append, List.length_cons, List.length_nil, List.length_set]; omega)) (by first | omega | (simp only [List.length_append, List.length_cons, List.length_nil, List.length_set]; omega))) rfl ?_
      refine S.q (Qt.ld rfl (Cel.eltM (Src.ro 0 rfl) he7) (o := (voff av + k * 4)) (off := 0) (by omega) (Cut.agg [.int .i64 e7.to, .int .i64 e7.tier, .int .i64 e7.weight, .int .i64 e7.most] Tryd.isAgg38 Tryd.sizeOf38 rfl rfl)) rfl ?_
      refine S.p (Pu.move rfl) rfl ?_
      refine S.p (Pu.move rfl) rfl ?_
      obtain ⟨e8, he8⟩ : ∃ x_, m[k]? = some x_ := ⟨_, List.getElem?_eq_getElem (by first | omega | (simp only [List.length_append, List.length_cons, List.length_nil, List.length_set]; omega))⟩
      refine S.q (Qt.idxM Tryd.runUnderlying24 Tryd.sizeOf38 rfl (Src.ro 1 rfl) rfl (by first | omega | (simp only [List.length_append, List.length_cons, List.length_nil, List.length_set]; omega)) (by first | omega | (simp only [List.length_append, List.length_cons, List.length_nil, List.length_set]; omega))) rfl ?_
      refine S.q (Qt.ld rfl (Cel.eltM (Src.ro 1 rfl) he8) (o := (voff bv + k * 4)) (off := 0) (by omega) (Cut.agg [.int .i64 e8.to, .int .i64 e8.tier, .int .i64 e8.weight, .int .i64 e8.most] Tryd.isAgg38 Tryd.sizeOf38 rfl rfl)) rfl ?_
      refine S.p (Pu.neqI [e7.to, e7.tier, e7.weight, e7.most] [e8.to, e8.tier, e8.weight, e8.most] Tryd.underlying38 Tryd.stoodInHeld38 Tryd.eqGuardType38 (fint38 Tryd.underlying38) rfl rfl rfl rfl) rfl ?_
      refine S.endJ ?_
      refine J.cond rfl (fun h9 => ?_) (fun h9 => ?_)
      ·
        have h10 : (decide (([e7.to, e7.tier, e7.weight, e7.most] : List Int) = [e8.to, e8.tier, e8.weight, e8.most])) = false := not_flip h9
        have p11 := of_decide_eq_false h10
        refine J.seq ?_
        refine J.region ?_
        refine O.p (Pu.assign rfl) rfl ?_
        refine O.nil ?_
        exact J.ret (Fin.ret (rs := [.tmp 4]) rfl [_] ⟨rfl, trivial⟩ [] (by decide) [] rfl ⟨(by rw [show Cf.sameC l m = false from decide_eq_false (Cf.eqP_bad (f := Cf.clL) he7 he8 (by first | (simp only [Cf.one, Cf.clL, List.cons.injEq, and_true] at *; simp_all; done) | (simp only [Cf.clL] at *; simp_all; done)))]; rfl), rfl⟩)
      ·
        have h12 : (decide (([e7.to, e7.tier, e7.weight, e7.most] : List Int) = [e8.to, e8.tier, e8.weight, e8.most])) = true := not_flip h9
        have p13 := of_decide_eq_true h12
        refine J.skip ?_
        refine J.blk ?_
        refine J.region ?_
        refine O.p (Pu.add' rfl rfl (by first | omega | (simp only [List.length_append, List.length_cons, List.length_nil, List.length_set]; omega))) rfl ?_
        refine O.p (Pu.move rfl) rfl ?_
        refine O.nil ?_
        exact J.lp (k + 1) (show (k + 1) ≤ l.length ∧ (l.take (k + 1)).map Cf.clL = (m.take (k + 1)).map Cf.clL from ⟨by omega, Cf.eqP_next hst he7 he8 (by first | (simp only [Cf.one, Cf.clL, List.cons.injEq, and_true] at *; simp_all; done) | (simp only [Cf.clL] at *; simp_all; done))⟩) (show l.length - (k + 1) < l.length - k from (by first | omega | (simp only [List.length_append, List.length_cons, List.length_nil, List.length_set]; omega))) ⟨rfl, rfl, rfl, (congrArg (fun z => some (Value.int .i64 z)) (by first | rfl | omega : ((k : Int) + 1 : Int) = ((k + 1) : Int))), trivial⟩ [] (by decide) rfl
    ·
      have p14 := of_decide_eq_false h5
      refine J.exit _ rfl ?_
      refine J.seq ?_
      refine J.region ?_
      refine O.p (Pu.assign rfl) rfl ?_
      refine O.nil ?_
      exact J.ret (Fin.ret (rs := [.tmp 4]) rfl [_] ⟨rfl, trivial⟩ [] (by decide) [] rfl ⟨(by rw [show Cf.sameC l m = true from decide_eq_true (Cf.eqP_all hst (by omega) (by omega))]; rfl), rfl⟩)

set_option maxRecDepth 100000 in
set_option maxHeartbeats 1000000 in
theorem cf_Same (x0 x1 x2 x3 x4 x5 x6 x7 x8 x9 x10 x11 x12 : Int) (y0 y1 y2 y3 y4 y5 y6 y7 y8 y9 y10 y11 y12 : Int) (av bv : Value) (l m : List Cl) (hl : l.length ≤ 100000) (hm : m.length ≤ 100000) : Tri Tryd.prog 27 #[.agg #[.int .i64 x0, .int .i64 x1, .int .i64 x2, .int .i64 x3, .int .i64 x4, .int .i64 x5, .int .i64 x6, .int .i64 x7, .int .i64 x8, .int .i64 x9, .int .i64 x10, .int .i64 x11, .int .i64 x12, av], .agg #[.int .i64 y0, .int .i64 y1, .int .i64 y2, .int .i64 y3, .int .i64 y4, .int .i64 y5, .int .i64 y6, .int .i64 y7, .int .i64 y8, .int .i64 y9, .int .i64 y10, .int .i64 y11, .int .i64 y12, bv]] [rd av 4 (l.map Cl.cells), rd bv 4 (m.map Cl.cells)] [] (fun v L' => v = .bool (Cf.sameI [x0, x1, x2, x3, x4, x5, x6, x7, x8, x9, x10, x11, x12] [y0, y1, y2, y3, y4, y5, y6, y7, y8, y9, y10, y11, y12] && Cf.sameC l m) ∧ L' = []) := by
  refine Tri.enter (args := [.agg #[.int .i64 x0, .int .i64 x1, .int .i64 x2, .int .i64 x3, .int .i64 x4, .int .i64 x5, .int .i64 x6, .int .i64 x7, .int .i64 x8, .int .i64 x9, .int .i64 x10, .int .i64 x11, .int .i64 x12, av], .agg #[.int .i64 y0, .int .i64 y1, .int .i64 y2, .int .i64 y3, .int .i64 y4, .int .i64 y5, .int .i64 y6, .int .i64 y7, .int .i64 y8, .int .i64 y9, .int .i64 y10, .int .i64 y11, .int .i64 y12, bv]]) (body := _) 17 Tryd.func27 rfl Tryd.ntmps27 rfl ?_
  intro w0
  refine J.seq ?_
  refine J.region ?_
  refine O.one (Src.ro 0 rfl) (fun hV2 => ?_)
  refine O.l (Lo.box [.int .i64 x0, .int .i64 x1, .int .i64 x2, .int .i64 x3, .int .i64 x4, .int .i64 x5, .int .i64 x6, .int .i64 x7, .int .i64 x8, .int .i64 x9, .int .i64 x10, .int .i64 x11, .int .i64 x12, av] rfl rfl) rfl ?_
  rintro _ _ ⟨g1, rfl, rfl⟩
  refine O.one (Src.ro 1 rfl) (fun hV4 => ?_)
  refine O.l (Lo.box [.int .i64 y0, .int .i64 y1, .int .i64 y2, .int .i64 y3, .int .i64 y4, .int .i64 y5, .int .i64 y6, .int .i64 y7, .int .i64 y8, .int .i64 y9, .int .i64 y10, .int .i64 y11, .int .i64 y12, bv] rfl rfl) rfl ?_
  rintro _ _ ⟨g3, rfl, rfl⟩
  refine O.p (Pu.assign rfl) rfl ?_
  refine O.nil ?_
  refine J.seq ?_
  refine J.drawMix [(0, false), (2, false), (1, true), (3, true), (4, true), (5, false), (6, false), (7, false), (8, false), (9, false), (10, true), (11, false), (12, false)] [0, 1] [var g3 [.int .i64 y0, .int .i64 y1, .int .i64 y2, .int .i64 y3, .int .i64 y4, .int .i64 y5, .int .i64 y6, .int .i64 y7, .int .i64 y8, .int .i64 y9, .int .i64 y10, .int .i64 y11, .int .i64 y12, bv] 26, var g1 [.int .i64 x0, .int .i64 x1, .int .i64 x2, .int .i64 x3, .int .i64 x4, .int .i64 x5, .int .i64 x6, .int .i64 x7, .int .i64 x8, .int .i64 x9, .int .i64 x10, .int .i64 x11, .int .i64 x12, av] 26] Tryd.mixed (by kernel_rfl) (by decide) rfl ?_
  refine Mx.q rfl (Qt.ld rfl (Cel.var 1 rfl) (o := 0) (off := 0) rfl (Cut.agg [.int .i64 x0, .int .i64 x1, .int .i64 x2, .int .i64 x3, .int .i64 x4, .int .i64 x5, .int .i64 x6, .int .i64 x7, .int .i64 x8, .int .i64 x9, .int .i64 x10, .int .i64 x11, .int .i64 x12, av] Tryd.isAgg26 Tryd.sizeOf26 rfl rfl)) rfl ?_
  refine Mx.q rfl (Qt.ld rfl (Cel.var 0 rfl) (o := 0) (off := 0) rfl (Cut.agg [.int .i64 y0, .int .i64 y1, .int .i64 y2, .int .i64 y3, .int .i64 y4, .int .i64 y5, .int .i64 y6, .int .i64 y7, .int .i64 y8, .int .i64 y9, .int .i64 y10, .int .i64 y11, .int .i64 y12, bv] Tryd.isAgg26 Tryd.sizeOf26 rfl rfl)) rfl ?_
  refine Mx.l rfl (Lo.call [.agg #[.int .i64 x0, .int .i64 x1, .int .i64 x2, .int .i64 x3, .int .i64 x4, .int .i64 x5, .int .i64 x6, .int .i64 x7, .int .i64 x8, .int .i64 x9, .int .i64 x10, .int .i64 x11, .int .i64 x12, av]] (by exact Tryd.call43) rfl (cf_numbers x0 x1 x2 x3 x4 x5 x6 x7 x8 x9 x10 x11 x12 av l) [] [0, 1] (by decide) rfl [var g3 [.int .i64 y0, .int .i64 y1, .int .i64 y2, .int .i64 y3, .int .i64 y4, .int .i64 y5, .int .i64 y6, .int .i64 y7, .int .i64 y8, .int .i64 y9, .int .i64 y10, .int .i64 y11, .int .i64 y12, bv] 26, var g1 [.int .i64 x0, .int .i64 x1, .int .i64 x2, .int .i64 x3, .int .i64 x4, .int .i64 x5, .int .i64 x6, .int .i64 x7, .int .i64 x8, .int .i64 x9, .int .i64 x10, .int .i64 x11, .int .i64 x12, av] 26] rfl (RoOk.ro 0 rfl [] rfl RoOk.nil)) rfl ?_
  rintro v5 _ ⟨_, rfl, rfl⟩
  refine MxK.go [1, 2] [0, 1] [var g3 [.int .i64 y0, .int .i64 y1, .int .i64 y2, .int .i64 y3, .int .i64 y4, .int .i64 y5, .int .i64 y6, .int .i64 y7, .int .i64 y8, .int .i64 y9, .int .i64 y10, .int .i64 y11, .int .i64 y12, bv] 26, var g1 [.int .i64 x0, .int .i64 x1, .int .i64 x2, .int .i64 x3, .int .i64 x4, .int .i64 x5, .int .i64 x6, .int .i64 x7, .int .i64 x8, .int .i64 x9, .int .i64 x10, .int .i64 x11, .int .i64 x12, av] 26] (by decide) rfl (by decide) rfl ?_
  refine Mx.l rfl (Lo.call [.agg #[.int .i64 y0, .int .i64 y1, .int .i64 y2, .int .i64 y3, .int .i64 y4, .int .i64 y5, .int .i64 y6, .int .i64 y7, .int .i64 y8, .int .i64 y9, .int .i64 y10, .int .i64 y11, .int .i64 y12, bv]] (by exact Tryd.call43) rfl (cf_numbers y0 y1 y2 y3 y4 y5 y6 y7 y8 y9 y10 y11 y12 bv m) [] [0, 1, 2] (by decide) rfl [row v5 3 1 (([x0, x1, x2, x3, x4, x5, x6, x7, x8, x9, x10, x11, x12]).map encZ), var g3 [.int .i64 y0, .int .i64 y1, .int .i64 y2, .int .i64 y3, .int .i64 y4, .int .i64 y5, .int .i64 y6, .int .i64 y7, .int .i64 y8, .int .i64 y9, .int .i64 y10, .int .i64 y11, .int .i64 y12, bv] 26, var g1 [.int .i64 x0, .int .i64 x1, .int .i64 x2, .int .i64 x3, .int .i64 x4, .int .i64 x5, .int .i64 x6, .int .i64 x7, .int .i64 x8, .int .i64 x9, .int .i64 x10, .int .i64 x11, .int .i64 x12, av] 26] rfl (RoOk.ro 1 rfl [] rfl RoOk.nil)) rfl ?_
  rintro v6 _ ⟨_, rfl, rfl⟩
  refine MxK.all [2, 3] [var g3 [.int .i64 y0, .int .i64 y1, .int .i64 y2, .int .i64 y3, .int .i64 y4, .int .i64 y5, .int .i64 y6, .int .i64 y7, .int .i64 y8, .int .i64 y9, .int .i64 y10, .int .i64 y11, .int .i64 y12, bv] 26, var g1 [.int .i64 x0, .int .i64 x1, .int .i64 x2, .int .i64 x3, .int .i64 x4, .int .i64 x5, .int .i64 x6, .int .i64 x7, .int .i64 x8, .int .i64 x9, .int .i64 x10, .int .i64 x11, .int .i64 x12, av] 26] (by decide) rfl (by kernel_rfl) ?_
  refine Mx.l rfl (Lo.call [v5, v6] (by exact Tryd.call57) rfl (sl_Equal_int v5 v6 ([x0, x1, x2, x3, x4, x5, x6, x7, x8, x9, x10, x11, x12]) ([y0, y1, y2, y3, y4, y5, y6, y7, y8, y9, y10, y11, y12]) (by first | omega | decide | (simp only [List.length_cons, List.length_nil]; omega)) (by first | omega | decide | (simp only [List.length_cons, List.length_nil]; omega))) [] [0, 1, 2, 3] (by decide) rfl [row v6 3 1 (([y0, y1, y2, y3, y4, y5, y6, y7, y8, y9, y10, y11, y12]).map encZ), row v5 3 1 (([x0, x1, x2, x3, x4, x5, x6, x7, x8, x9, x10, x11, x12]).map encZ), var g3 [.int .i64 y0, .int .i64 y1, .int .i64 y2, .int .i64 y3, .int .i64 y4, .int .i64 y5, .int .i64 y6, .int .i64 y7, .int .i64 y8, .int .i64 y9, .int .i64 y10, .int .i64 y11, .int .i64 y12, bv] 26, var g1 [.int .i64 x0, .int .i64 x1, .int .i64 x2, .int .i64 x3, .int .i64 x4, .int .i64 x5, .int .i64 x6, .int .i64 x7, .int .i64 x8, .int .i64 x9, .int .i64 x10, .int .i64 x11, .int .i64 x12, av] 26] rfl (RoOk.of 1 rfl row_rd [] (by decide) rfl (RoOk.of 0 rfl row_rd [] (by decide) rfl RoOk.nil))) rfl ?_
  rintro _ _ ⟨_, ⟨rfl, rfl⟩, rfl⟩
  refine MxK.all [2, 3] [var g3 [.int .i64 y0, .int .i64 y1, .int .i64 y2, .int .i64 y3, .int .i64 y4, .int .i64 y5, .int .i64 y6, .int .i64 y7, .int .i64 y8, .int .i64 y9, .int .i64 y10, .int .i64 y11, .int .i64 y12, bv] 26, var g1 [.int .i64 x0, .int .i64 x1, .int .i64 x2, .int .i64 x3, .int .i64 x4, .int .i64 x5, .int .i64 x6, .int .i64 x7, .int .i64 x8, .int .i64 x9, .int .i64 x10, .int .i64 x11, .int .i64 x12, av] 26] (by decide) rfl (by kernel_rfl) ?_
  refine Mx.p rfl (Pu.move rfl) rfl ?_
  refine by_bool (Cf.sameI ([x0, x1, x2, x3, x4, x5, x6, x7, x8, x9, x10, x11, x12]) ([y0, y1, y2, y3, y4, y5, y6, y7, y8, y9, y10, y11, y12])) (fun h8 => ?_) (fun h8 => ?_)
  ·
    refine Mx.gq (t := 10) rfl rfl rfl h8 rfl (Pu.qt (Pu.fieldAddr (off' := 13) Tryd.runUnderlying26 rfl Tryd.sizeOf24 rfl rfl rfl)) rfl ?_
    refine Mx.gq (t := 10) rfl rfl rfl h8 rfl (Qt.ld rfl (Cel.var 1 rfl) (o := 0) (off := 13) rfl (Cut.one Tryd.isAgg24 rfl)) rfl ?_
    refine Mx.gq (t := 10) rfl rfl rfl h8 rfl (Pu.qt (Pu.fieldAddr (off' := 13) Tryd.runUnderlying26 rfl Tryd.sizeOf24 rfl rfl rfl)) rfl ?_
    refine Mx.gq (t := 10) rfl rfl rfl h8 rfl (Qt.ld rfl (Cel.var 0 rfl) (o := 0) (off := 13) rfl (Cut.one Tryd.isAgg24 rfl)) rfl ?_
    refine Mx.gl (t := 10) rfl rfl rfl h8 rfl (Lo.call [av, bv] (by exact Tryd.call58) rfl (sl_Equal_Call av bv l m (by first | omega | decide | (simp only [List.length_cons, List.length_nil]; omega)) (by first | omega | decide | (simp only [List.length_cons, List.length_nil]; omega))) [] [0, 1, 2, 3] (by decide) rfl [row v6 3 1 (([y0, y1, y2, y3, y4, y5, y6, y7, y8, y9, y10, y11, y12]).map encZ), row v5 3 1 (([x0, x1, x2, x3, x4, x5, x6, x7, x8, x9, x10, x11, x12]).map encZ), var g3 [.int .i64 y0, .int .i64 y1, .int .i64 y2, .int .i64 y3, .int .i64 y4, .int .i64 y5, .int .i64 y6, .int .i64 y7, .int .i64 y8, .int .i64 y9, .int .i64 y10, .int .i64 y11, .int .i64 y12, bv] 26, var g1 [.int .i64 x0, .int .i64 x1, .int .i64 x2, .int .i64 x3, .int .i64 x4, .int .i64 x5, .int .i64 x6, .int .i64 x7, .int .i64 x8, .int .i64 x9, .int .i64 x10, .int .i64 x11, .int .i64 x12, av] 26] rfl (RoOk.ro 0 rfl [] rfl (RoOk.ro 1 rfl [] rfl RoOk.nil))) rfl ?_
    rintro _ _ ⟨_, ⟨rfl, rfl⟩, rfl⟩
    refine MxK.go [2, 3] [0, 1] [var g3 [.int .i64 y0, .int .i64 y1, .int .i64 y2, .int .i64 y3, .int .i64 y4, .int .i64 y5, .int .i64 y6, .int .i64 y7, .int .i64 y8, .int .i64 y9, .int .i64 y10, .int .i64 y11, .int .i64 y12, bv] 26, var g1 [.int .i64 x0, .int .i64 x1, .int .i64 x2, .int .i64 x3, .int .i64 x4, .int .i64 x5, .int .i64 x6, .int .i64 x7, .int .i64 x8, .int .i64 x9, .int .i64 x10, .int .i64 x11, .int .i64 x12, av] 26] (by decide) rfl (by decide) rfl ?_
    refine Mx.p rfl (Pu.pickT rfl h8 rfl) rfl ?_
    refine Mx.p rfl (Pu.assign rfl) rfl ?_
    refine Mx.nil ?_
    exact J.ret (Fin.ret (rs := [.tmp 4]) rfl [_] ⟨rfl, trivial⟩ [] (by decide) [] rfl ⟨(by simp only [vOf, *, Bool.true_and, Bool.false_and]), rfl⟩)
  ·
    refine Mx.gskip (t := 10) rfl rfl rfl (no_bool (by rw [h8]; decide)) rfl rfl ?_
    refine Mx.gskip (t := 10) rfl rfl rfl (no_bool (by rw [h8]; decide)) rfl rfl ?_
    refine Mx.gskip (t := 10) rfl rfl rfl (no_bool (by rw [h8]; decide)) rfl rfl ?_
    refine Mx.gskip (t := 10) rfl rfl rfl (no_bool (by rw [h8]; decide)) rfl rfl ?_
    refine Mx.gskipL (t := 10) rfl rfl rfl (no_bool (by rw [h8]; decide)) rfl rfl ?_
    refine MxK.go [2, 3] [0, 1] [var g3 [.int .i64 y0, .int .i64 y1, .int .i64 y2, .int .i64 y3, .int .i64 y4, .int .i64 y5, .int .i64 y6, .int .i64 y7, .int .i64 y8, .int .i64 y9, .int .i64 y10, .int .i64 y11, .int .i64 y12, bv] 26, var g1 [.int .i64 x0, .int .i64 x1, .int .i64 x2, .int .i64 x3, .int .i64 x4, .int .i64 x5, .int .i64 x6, .int .i64 x7, .int .i64 x8, .int .i64 x9, .int .i64 x10, .int .i64 x11, .int .i64 x12, av] 26] (by decide) rfl (by decide) rfl ?_
    refine Mx.p rfl (Pu.pickF rfl h8 rfl) rfl ?_
    refine Mx.p rfl (Pu.assign rfl) rfl ?_
    refine Mx.nil ?_
    exact J.ret (Fin.ret (rs := [.tmp 4]) rfl [_] ⟨rfl, trivial⟩ [] (by decide) [] rfl ⟨(by simp only [vOf, *, Bool.true_and, Bool.false_and]), rfl⟩)

set_option maxRecDepth 100000 in
theorem r28_from (n a b : Int) : Tri Tryd.prog 54 #[.int .i64 n, .int .i64 a, .int .i64 b] [] [] (fun v L' => v = .bool (Cf.from_ n a b) ∧ L' = []) := by
  refine Tri.enter (args := [.int .i64 n, .int .i64 a, .int .i64 b]) (body := _) 15 Tryd.func54 rfl Tryd.ntmps54 rfl ?_
  intro w0
  refine J.seq ?_
  refine J.region ?_
  refine O.p (Pu.assign rfl) rfl ?_
  refine O.nil ?_
  refine J.seq ?_
  refine J.region ?_
  refine O.p (Pu.move rfl) rfl ?_
  refine O.p (Pu.move rfl) rfl ?_
  refine O.p (Pu.geq rfl rfl) rfl ?_
  refine O.p (Pu.move rfl) rfl ?_
  refine by_bool (decide (a ≤ n)) (fun h1 => ?_) (fun h1 => ?_)
  ·
    have p2 := of_decide_eq_true h1
    refine O.gq (t := 10) rfl rfl h1 rfl (Pu.qt (Pu.move rfl)) rfl ?_
    refine O.gq (t := 10) rfl rfl h1 rfl (Pu.qt (Pu.move rfl)) rfl ?_
    refine O.gq (t := 10) rfl rfl h1 rfl (Pu.qt (Pu.leq rfl rfl)) rfl ?_
    refine O.p (Pu.pickT rfl h1 rfl) rfl ?_
    refine O.p (Pu.assign rfl) rfl ?_
    refine O.nil ?_
    exact J.ret (Fin.ret (rs := [.tmp 6]) rfl [_] ⟨rfl, trivial⟩ [] (by decide) [] rfl ⟨(by simp only [vOf, Cf.from_, *, decide_true, decide_false, Bool.true_and, Bool.false_and]), rfl⟩)
  ·
    have p3 := of_decide_eq_false h1
    refine O.gskip (t := 10) rfl rfl (no_bool (by rw [h1]; decide)) rfl rfl ?_
    refine O.gskip (t := 10) rfl rfl (no_bool (by rw [h1]; decide)) rfl rfl ?_
    refine O.gskip (t := 10) rfl rfl (no_bool (by rw [h1]; decide)) rfl rfl ?_
    refine O.p (Pu.pickF rfl h1 rfl) rfl ?_
    refine O.p (Pu.assign rfl) rfl ?_
    refine O.nil ?_
    exact J.ret (Fin.ret (rs := [.tmp 6]) rfl [_] ⟨rfl, trivial⟩ [] (by decide) [] rfl ⟨(by simp only [vOf, Cf.from_, *, decide_true, decide_false, Bool.true_and, Bool.false_and]), rfl⟩)

set_option maxRecDepth 100000 in
set_option maxHeartbeats 1000000 in
theorem r28_calls (x0 x1 x2 x3 x4 x5 x6 x7 x8 x9 x10 x11 x12 : Int) (cv : Value) (cs : List Cl) (self services : Int) (h0 : -1000000 ≤ services) (h1 : services ≤ 1000000) (hl : cs.length ≤ 100000) : Tri Tryd.prog 56 #[.agg #[.int .i64 x0, .int .i64 x1, .int .i64 x2, .int .i64 x3, .int .i64 x4, .int .i64 x5, .int .i64 x6, .int .i64 x7, .int .i64 x8, .int .i64 x9, .int .i64 x10, .int .i64 x11, .int .i64 x12, cv], .int .i64 self, .int .i64 services] [rd cv 4 (cs.map Cl.cells)] [] (fun v L' => v = .bool (Cf.callsOk cs x3 self services) ∧ L' = []) := by
  refine Tri.enter (args := [.agg #[.int .i64 x0, .int .i64 x1, .int .i64 x2, .int .i64 x3, .int .i64 x4, .int .i64 x5, .int .i64 x6, .int .i64 x7, .int .i64 x8, .int .i64 x9, .int .i64 x10, .int .i64 x11, .int .i64 x12, cv], .int .i64 self, .int .i64 services]) (body := _) 72 Tryd.func56 rfl Tryd.ntmps56 rfl ?_
  intro w0
  refine J.seq ?_
  refine J.region ?_
  refine O.one (Src.ro 0 rfl) (fun hV2 => ?_)
  refine O.l (Lo.box [.int .i64 x0, .int .i64 x1, .int .i64 x2, .int .i64 x3, .int .i64 x4, .int .i64 x5, .int .i64 x6, .int .i64 x7, .int .i64 x8, .int .i64 x9, .int .i64 x10, .int .i64 x11, .int .i64 x12, cv] rfl rfl) rfl ?_
  rintro _ _ ⟨g1, rfl, rfl⟩
  refine O.p (Pu.assign rfl) rfl ?_
  refine O.nil ?_
  refine J.seq ?_
  refine J.seq ?_
  refine J.region ?_
  refine O.p (Pu.assign rfl) rfl ?_
  refine O.nil ?_
  refine J.block ?_
  refine J.loop (X := Nat) (fun ξ => ξ ≤ cs.length ∧ Cf.okU cs x3 self services ξ = true) (fun ξ => [(1, .int .i64 self), (2, .int .i64 services), (3, .pointer (some ⟨g1, 0, none⟩)), (7, .int .i64 (ξ : Int))]) (fun ξ => [var g1 [.int .i64 x0, .int .i64 x1, .int .i64 x2, .int .i64 x3, .int .i64 x4, .int .i64 x5, .int .i64 x6, .int .i64 x7, .int .i64 x8, .int .i64 x9, .int .i64 x10, .int .i64 x11, .int .i64 x12, cv] 26]) (fun ξ => cs.length - ξ) 0 (show 0 ≤ cs.length ∧ Cf.okU cs x3 self services 0 = true from ⟨by omega, rfl⟩) ⟨rfl, rfl, rfl, (congrArg (fun z => some (Value.int .i64 z)) (by first | rfl | omega : (0 : Int) = (0 : Int))), trivial⟩ [0] (by decide) rfl ?_
  rintro k hq3
  obtain ⟨hk, hok⟩ : k ≤ cs.length ∧ Cf.okU cs x3 self services k = true := hq3
  show J _ _ [(1, .int .i64 self), (2, .int .i64 services), (3, .pointer (some ⟨g1, 0, none⟩)), (7, .int .i64 (k : Int))] [var g1 [.int .i64 x0, .int .i64 x1, .int .i64 x2, .int .i64 x3, .int .i64 x4, .int .i64 x5, .int .i64 x6, .int .i64 x7, .int .i64 x8, .int .i64 x9, .int .i64 x10, .int .i64 x11, .int .i64 x12, cv] 26]
  refine J.seq ?_
  refine J.seq ?_
  refine J.region ?_
  refine O.p (Pu.move rfl) rfl ?_
  refine O.p (Pu.fieldAddr (off' := 13) Tryd.runUnderlying26 rfl Tryd.sizeOf24 rfl rfl rfl) rfl ?_
  refine O.q (Qt.ld rfl (Cel.var 0 rfl) (o := 0) (off := 13) rfl (Cut.one Tryd.isAgg24 rfl)) rfl ?_
  refine O.q (Qt.lenM Tryd.runUnderlying24 rfl (Src.ro 0 rfl)) rfl ?_
  refine O.p (Pu.lss rfl rfl) rfl ?_
  refine O.nil ?_
  refine J.cond rfl (fun h4 => ?_) (fun h4 => ?_)
  ·
    have p5 := of_decide_eq_true h4
    refine J.skip ?_
    refine J.seq ?_
    refine J.block ?_
    refine J.seq ?_
    refine J.region ?_
    refine O.p (Pu.fieldAddr (off' := 13) Tryd.runUnderlying26 rfl Tryd.sizeOf24 rfl rfl rfl) rfl ?_
    refine O.q (Qt.ld rfl (Cel.var 0 rfl) (o := 0) (off := 13) rfl (Cut.one Tryd.isAgg24 rfl)) rfl ?_
    refine O.p (Pu.move rfl) rfl ?_
    obtain ⟨e6, he6⟩ : ∃ x_, cs[k]? = some x_ := ⟨_, List.getElem?_eq_getElem (by omega)⟩
    refine O.q (Qt.idxM Tryd.runUnderlying24 Tryd.sizeOf38 rfl (Src.ro 0 rfl) rfl (by omega) (by omega)) rfl ?_
    refine O.q (Qt.ld rfl (Cel.eltM (Src.ro 0 rfl) he6) (o := (voff cv + k * 4)) (off := 0) (by omega) (Cut.agg [.int .i64 e6.to, .int .i64 e6.tier, .int .i64 e6.weight, .int .i64 e6.most] Tryd.isAgg38 Tryd.sizeOf38 rfl rfl)) rfl ?_
    refine O.l (Lo.alloc [.int .i64 0, .int .i64 0, .int .i64 0, .int .i64 0] (by exact Tryd.zeroValue38) rfl) rfl ?_
    rintro _ _ ⟨g7, rfl, rfl⟩
    refine O.l0 (Lo.store 0 (vs := [.int .i64 e6.to, .int .i64 e6.tier, .int .i64 e6.weight, .int .i64 e6.most]) [.int .i64 e6.to, .int .i64 e6.tier, .int .i64 e6.weight, .int .i64 e6.most] rfl rfl rfl (by exact Tryd.sizeOf38) rfl rfl rfl rfl rfl) ?_
    rintro _ _ rfl
    refine O.nil ?_
    refine J.seq ?_
    refine J.seq ?_
    refine J.region ?_
    refine O.p (Pu.fieldAddr (off' := 0) Tryd.runUnderlying38 rfl Tryd.sizeOf3 rfl rfl rfl) rfl ?_
    refine O.q (Qt.ld rfl (Cel.var 0 rfl) (o := 0) (off := 0) rfl (Cut.one Tryd.isAgg3 rfl)) rfl ?_
    refine O.p (Pu.move rfl) rfl ?_
    refine O.p (Pu.sub' rfl rfl (by first | omega | (simp only [List.length_append, List.length_cons, List.length_nil, List.length_set]; omega))) rfl ?_
    refine O.l (Lo.call [.int .i64 e6.to, .int .i64 0, .int .i64 (services - 1)] (by exact Tryd.call54) rfl (r28_from e6.to 0 (services - 1)) [] [0, 1] (by decide) rfl [var g7 [.int .i64 e6.to, .int .i64 e6.tier, .int .i64 e6.weight, .int .i64 e6.most] 38, var g1 [.int .i64 x0, .int .i64 x1, .int .i64 x2, .int .i64 x3, .int .i64 x4, .int .i64 x5, .int .i64 x6, .int .i64 x7, .int .i64 x8, .int .i64 x9, .int .i64 x10, .int .i64 x11, .int .i64 x12, cv] 26] rfl RoOk.nil) rfl ?_
    rintro _ _ ⟨_, ⟨rfl, rfl⟩, rfl⟩
    refine O.p (Pu.not rfl) rfl ?_
    refine O.p (Pu.move rfl) rfl ?_
    refine by_bool (!(Cf.from_ e6.to 0 (services - 1))) (fun h9 => ?_) (fun h9 => ?_)
    ·
      have h10 : (Cf.from_ e6.to 0 (services - 1)) = false := not_flip h9
      refine O.gskip (t := 28) rfl rfl (no_bool (by rw [h9]; decide)) rfl rfl ?_
      refine O.gskip (t := 28) rfl rfl (no_bool (by rw [h9]; decide)) rfl rfl ?_
      refine O.gskip (t := 28) rfl rfl (no_bool (by rw [h9]; decide)) rfl rfl ?_
      refine O.gskip (t := 28) rfl rfl (no_bool (by rw [h9]; decide)) rfl rfl ?_
      refine O.p (Pu.pickT rfl h9 rfl) rfl ?_
      refine O.p (Pu.move rfl) rfl ?_
      refine O.gskip (t := 34) rfl rfl (no_bool (by decide)) rfl rfl ?_
      refine O.gskip (t := 34) rfl rfl (no_bool (by decide)) rfl rfl ?_
      refine O.gskip (t := 34) rfl rfl (no_bool (by decide)) rfl rfl ?_
      refine O.gskip (t := 34) rfl rfl (no_bool (by decide)) rfl rfl ?_
      refine O.gskip (t := 34) rfl rfl (no_bool (by decide)) rfl rfl ?_
      refine O.gskip (t := 34) rfl rfl (no_bool (by decide)) rfl rfl ?_
      refine O.p (Pu.pickT rfl rfl rfl) rfl ?_
      refine O.p (Pu.move rfl) rfl ?_
      refine O.gskip (t := 42) rfl rfl (no_bool (by decide)) rfl rfl ?_
      refine O.gskip (t := 42) rfl rfl (no_bool (by decide)) rfl rfl ?_
      refine O.gskip (t := 42) rfl rfl (no_bool (by decide)) rfl rfl ?_
      refine O.gskip (t := 42) rfl rfl (no_bool (by decide)) rfl rfl ?_
      refine O.p (Pu.pickT rfl rfl rfl) rfl ?_
      refine O.p (Pu.move rfl) rfl ?_
      refine O.gskip (t := 48) rfl rfl (no_bool (by decide)) rfl rfl ?_
      refine O.gskip (t := 48) rfl rfl (no_bool (by decide)) rfl rfl ?_
      refine O.gskip (t := 48) rfl rfl (no_bool (by decide)) rfl rfl ?_
      refine O.gskip (t := 48) rfl rfl (no_bool (by decide)) rfl rfl ?_
      refine O.p (Pu.pickT rfl rfl rfl) rfl ?_
      refine O.nil ?_
      refine J.condT rfl rfl ?_
      refine J.seq ?_
      refine J.region ?_
      refine O.p (Pu.assign rfl) rfl ?_
      refine O.nil ?_
      exact J.ret (Fin.ret (rs := [.tmp 6]) rfl [_] ⟨rfl, trivial⟩ [] (by decide) [] rfl ⟨(by rw [Cf.callsOk_bad he6 (.inr (by simp only [Cf.right, *, Bool.true_and, Bool.false_and, Bool.and_true, Bool.and_false, decide_true, decide_false, Bool.not_true, Bool.not_false]))]; rfl), rfl⟩)
    ·
      have h11 : (Cf.from_ e6.to 0 (services - 1)) = true := not_flip h9
      refine O.gq (t := 28) rfl rfl h9 rfl (Pu.qt (Pu.fieldAddr (off' := 0) Tryd.runUnderlying38 rfl Tryd.sizeOf3 rfl rfl rfl)) rfl ?_
      refine O.gq (t := 28) rfl rfl h9 rfl (Qt.ld rfl (Cel.var 0 rfl) (o := 0) (off := 0) rfl (Cut.one Tryd.isAgg3 rfl)) rfl ?_
      refine O.gq (t := 28) rfl rfl h9 rfl (Pu.qt (Pu.move rfl)) rfl ?_
      refine O.gq (t := 28) rfl rfl h9 rfl (Pu.qt (Pu.eql rfl rfl)) rfl ?_
      refine O.p (Pu.pickF rfl h9 rfl) rfl ?_
      refine O.p (Pu.move rfl) rfl ?_
      refine by_bool (decide (e6.to = self)) (fun h12 => ?_) (fun h12 => ?_)
      ·
        have p13 := of_decide_eq_true h12
        refine O.gskip (t := 34) rfl rfl (no_bool (by rw [h12]; decide)) rfl rfl ?_
        refine O.gskip (t := 34) rfl rfl (no_bool (by rw [h12]; decide)) rfl rfl ?_
        refine O.gskip (t := 34) rfl rfl (no_bool (by rw [h12]; decide)) rfl rfl ?_
        refine O.gskip (t := 34) rfl rfl (no_bool (by rw [h12]; decide)) rfl rfl ?_
        refine O.gskip (t := 34) rfl rfl (no_bool (by rw [h12]; decide)) rfl rfl ?_
        refine O.gskip (t := 34) rfl rfl (no_bool (by rw [h12]; decide)) rfl rfl ?_
        refine O.p (Pu.pickT rfl h12 rfl) rfl ?_
        refine O.p (Pu.move rfl) rfl ?_
        refine O.gskip (t := 42) rfl rfl (no_bool (by decide)) rfl rfl ?_
        refine O.gskip (t := 42) rfl rfl (no_bool (by decide)) rfl rfl ?_
        refine O.gskip (t := 42) rfl rfl (no_bool (by decide)) rfl rfl ?_
        refine O.gskip (t := 42) rfl rfl (no_bool (by decide)) rfl rfl ?_
        refine O.p (Pu.pickT rfl rfl rfl) rfl ?_
        refine O.p (Pu.move rfl) rfl ?_
        refine O.gskip (t := 48) rfl rfl (no_bool (by decide)) rfl rfl ?_
        refine O.gskip (t := 48) rfl rfl (no_bool (by decide)) rfl rfl ?_
        refine O.gskip (t := 48) rfl rfl (no_bool (by decide)) rfl rfl ?_
        refine O.gskip (t := 48) rfl rfl (no_bool (by decide)) rfl rfl ?_
        refine O.p (Pu.pickT rfl rfl rfl) rfl ?_
        refine O.nil ?_
        refine J.condT rfl rfl ?_
        refine J.seq ?_
        refine J.region ?_
        refine O.p (Pu.assign rfl) rfl ?_
        refine O.nil ?_
        exact J.ret (Fin.ret (rs := [.tmp 6]) rfl [_] ⟨rfl, trivial⟩ [] (by decide) [] rfl ⟨(by rw [Cf.callsOk_bad he6 (.inr (by simp only [Cf.right, *, Bool.true_and, Bool.false_and, Bool.and_true, Bool.and_false, decide_true, decide_false, Bool.not_true, Bool.not_false]))]; rfl), rfl⟩)
      ·
        have p14 := of_decide_eq_false h12
        refine O.gq (t := 34) rfl rfl h12 rfl (Pu.qt (Pu.fieldAddr (off' := 1) Tryd.runUnderlying38 rfl Tryd.sizeOf3 rfl rfl rfl)) rfl ?_
        refine O.gq (t := 34) rfl rfl h12 rfl (Qt.ld rfl (Cel.var 0 rfl) (o := 0) (off := 1) rfl (Cut.one Tryd.isAgg3 rfl)) rfl ?_
        refine O.gq (t := 34) rfl rfl h12 rfl (Pu.qt (Pu.fieldAddr (off' := 3) Tryd.runUnderlying26 rfl Tryd.sizeOf3 rfl rfl rfl)) rfl ?_
        refine O.gq (t := 34) rfl rfl h12 rfl (Qt.ld rfl (Cel.var 1 rfl) (o := 0) (off := 3) rfl (Cut.one Tryd.isAgg3 rfl)) rfl ?_
        refine O.gl (t := 34) rfl rfl h12 rfl (Lo.call [.int .i64 e6.tier, .int .i64 0, .int .i64 x3] (by exact Tryd.call54) rfl (r28_from e6.tier 0 x3) [] [0, 1] (by decide) rfl [var g7 [.int .i64 e6.to, .int .i64 e6.tier, .int .i64 e6.weight, .int .i64 e6.most] 38, var g1 [.int .i64 x0, .int .i64 x1, .int .i64 x2, .int .i64 x3, .int .i64 x4, .int .i64 x5, .int .i64 x6, .int .i64 x7, .int .i64 x8, .int .i64 x9, .int .i64 x10, .int .i64 x11, .int .i64 x12, cv] 26] rfl RoOk.nil) rfl ?_
        rintro _ _ ⟨_, ⟨rfl, rfl⟩, rfl⟩
        refine O.gq (t := 34) rfl rfl h12 rfl (Pu.qt (Pu.not rfl)) rfl ?_
        refine O.p (Pu.pickF rfl h12 rfl) rfl ?_
        refine O.p (Pu.move rfl) rfl ?_
        refine by_bool (!(Cf.from_ e6.tier 0 x3)) (fun h16 => ?_) (fun h16 => ?_)
        ·
          have h17 : (Cf.from_ e6.tier 0 x3) = false := not_flip h16
          refine O.gskip (t := 42) rfl rfl (no_bool (by rw [h16]; decide)) rfl rfl ?_
          refine O.gskip (t := 42) rfl rfl (no_bool (by rw [h16]; decide)) rfl rfl ?_
          refine O.gskip (t := 42) rfl rfl (no_bool (by rw [h16]; decide)) rfl rfl ?_
          refine O.gskip (t := 42) rfl rfl (no_bool (by rw [h16]; decide)) rfl rfl ?_
          refine O.p (Pu.pickT rfl h16 rfl) rfl ?_
          refine O.p (Pu.move rfl) rfl ?_
          refine O.gskip (t := 48) rfl rfl (no_bool (by decide)) rfl rfl ?_
          refine O.gskip (t := 48) rfl rfl (no_bool (by decide)) rfl rfl ?_
          refine O.gskip (t := 48) rfl rfl (no_bool (by decide)) rfl rfl ?_
          refine O.gskip (t := 48) rfl rfl (no_bool (by decide)) rfl rfl ?_
          refine O.p (Pu.pickT rfl rfl rfl) rfl ?_
          refine O.nil ?_
          refine J.condT rfl rfl ?_
          refine J.seq ?_
          refine J.region ?_
          refine O.p (Pu.assign rfl) rfl ?_
          refine O.nil ?_
          exact J.ret (Fin.ret (rs := [.tmp 6]) rfl [_] ⟨rfl, trivial⟩ [] (by decide) [] rfl ⟨(by rw [Cf.callsOk_bad he6 (.inr (by simp only [Cf.right, *, Bool.true_and, Bool.false_and, Bool.and_true, Bool.and_false, decide_true, decide_false, Bool.not_true, Bool.not_false]))]; rfl), rfl⟩)
        ·
          have h18 : (Cf.from_ e6.tier 0 x3) = true := not_flip h16
          refine O.gq (t := 42) rfl rfl h16 rfl (Pu.qt (Pu.fieldAddr (off' := 2) Tryd.runUnderlying38 rfl Tryd.sizeOf3 rfl rfl rfl)) rfl ?_
          refine O.gq (t := 42) rfl rfl h16 rfl (Qt.ld rfl (Cel.var 0 rfl) (o := 0) (off := 2) rfl (Cut.one Tryd.isAgg3 rfl)) rfl ?_
          refine O.gl (t := 42) rfl rfl h16 rfl (Lo.call [.int .i64 e6.weight, .int .i64 1, .int .i64 8] (by exact Tryd.call54) rfl (r28_from e6.weight 1 8) [] [0, 1] (by decide) rfl [var g7 [.int .i64 e6.to, .int .i64 e6.tier, .int .i64 e6.weight, .int .i64 e6.most] 38, var g1 [.int .i64 x0, .int .i64 x1, .int .i64 x2, .int .i64 x3, .int .i64 x4, .int .i64 x5, .int .i64 x6, .int .i64 x7, .int .i64 x8, .int .i64 x9, .int .i64 x10, .int .i64 x11, .int .i64 x12, cv] 26] rfl RoOk.nil) rfl ?_
          rintro _ _ ⟨_, ⟨rfl, rfl⟩, rfl⟩
          refine O.gq (t := 42) rfl rfl h16 rfl (Pu.qt (Pu.not rfl)) rfl ?_
          refine O.p (Pu.pickF rfl h16 rfl) rfl ?_
          refine O.p (Pu.move rfl) rfl ?_
          refine by_bool (!(Cf.from_ e6.weight 1 8)) (fun h20 => ?_) (fun h20 => ?_)
          ·
            have h21 : (Cf.from_ e6.weight 1 8) = false := not_flip h20
            refine O.gskip (t := 48) rfl rfl (no_bool (by rw [h20]; decide)) rfl rfl ?_
            refine O.gskip (t := 48) rfl rfl (no_bool (by rw [h20]; decide)) rfl rfl ?_
            refine O.gskip (t := 48) rfl rfl (no_bool (by rw [h20]; decide)) rfl rfl ?_
            refine O.gskip (t := 48) rfl rfl (no_bool (by rw [h20]; decide)) rfl rfl ?_
            refine O.p (Pu.pickT rfl h20 rfl) rfl ?_
            refine O.nil ?_
            refine J.condT rfl rfl ?_
            refine J.seq ?_
            refine J.region ?_
            refine O.p (Pu.assign rfl) rfl ?_
            refine O.nil ?_
            exact J.ret (Fin.ret (rs := [.tmp 6]) rfl [_] ⟨rfl, trivial⟩ [] (by decide) [] rfl ⟨(by rw [Cf.callsOk_bad he6 (.inr (by simp only [Cf.right, *, Bool.true_and, Bool.false_and, Bool.and_true, Bool.and_false, decide_true, decide_false, Bool.not_true, Bool.not_false]))]; rfl), rfl⟩)
          ·
            have h22 : (Cf.from_ e6.weight 1 8) = true := not_flip h20
            refine O.gq (t := 48) rfl rfl h20 rfl (Pu.qt (Pu.fieldAddr (off' := 3) Tryd.runUnderlying38 rfl Tryd.sizeOf3 rfl rfl rfl)) rfl ?_
            refine O.gq (t := 48) rfl rfl h20 rfl (Qt.ld rfl (Cel.var 0 rfl) (o := 0) (off := 3) rfl (Cut.one Tryd.isAgg3 rfl)) rfl ?_
            refine O.gl (t := 48) rfl rfl h20 rfl (Lo.call [.int .i64 e6.most, .int .i64 1, .int .i64 65535] (by exact Tryd.call54) rfl (r28_from e6.most 1 65535) [] [0, 1] (by decide) rfl [var g7 [.int .i64 e6.to, .int .i64 e6.tier, .int .i64 e6.weight, .int .i64 e6.most] 38, var g1 [.int .i64 x0, .int .i64 x1, .int .i64 x2, .int .i64 x3, .int .i64 x4, .int .i64 x5, .int .i64 x6, .int .i64 x7, .int .i64 x8, .int .i64 x9, .int .i64 x10, .int .i64 x11, .int .i64 x12, cv] 26] rfl RoOk.nil) rfl ?_
            rintro _ _ ⟨_, ⟨rfl, rfl⟩, rfl⟩
            refine O.gq (t := 48) rfl rfl h20 rfl (Pu.qt (Pu.not rfl)) rfl ?_
            refine O.p (Pu.pickF rfl h20 rfl) rfl ?_
            refine O.nil ?_
            refine J.cond rfl (fun h24 => ?_) (fun h24 => ?_)
            ·
              have h25 : (Cf.from_ e6.most 1 65535) = false := not_flip h24
              refine J.seq ?_
              refine J.region ?_
              refine O.p (Pu.assign rfl) rfl ?_
              refine O.nil ?_
              exact J.ret (Fin.ret (rs := [.tmp 6]) rfl [_] ⟨rfl, trivial⟩ [] (by decide) [] rfl ⟨(by rw [Cf.callsOk_bad he6 (.inr (by simp only [Cf.right, *, Bool.true_and, Bool.false_and, Bool.and_true, Bool.and_false, decide_true, decide_false, Bool.not_true, Bool.not_false]))]; rfl), rfl⟩)
            ·
              have h26 : (Cf.from_ e6.most 1 65535) = true := not_flip h24
              refine J.skip ?_
              refine J.seq ?_
              refine J.region ?_
              refine O.p (Pu.assign rfl) rfl ?_
              refine O.nil ?_
              refine J.block ?_
              refine J.loop (X := Nat) (fun ξ => ξ ≤ k ∧ ((cs.take ξ).any fun d => decide (d.to = e6.to)) = false) (fun ξ => [(1, .int .i64 self), (2, .int .i64 services), (3, .pointer (some ⟨g1, 0, none⟩)), (7, .int .i64 (k : Int)), (8, .pointer (some ⟨g7, 0, none⟩)), (9, .int .i64 (ξ : Int))]) (fun ξ => [var g1 [.int .i64 x0, .int .i64 x1, .int .i64 x2, .int .i64 x3, .int .i64 x4, .int .i64 x5, .int .i64 x6, .int .i64 x7, .int .i64 x8, .int .i64 x9, .int .i64 x10, .int .i64 x11, .int .i64 x12, cv] 26, var g7 [.int .i64 e6.to, .int .i64 e6.tier, .int .i64 e6.weight, .int .i64 e6.most] 38]) (fun ξ => k - ξ) 0 (show 0 ≤ k ∧ ((cs.take 0).any fun d => decide (d.to = e6.to)) = false from ⟨by omega, rfl⟩) ⟨rfl, rfl, rfl, rfl, rfl, (congrArg (fun z => some (Value.int .i64 z)) (by first | rfl | omega : (0 : Int) = (0 : Int))), trivial⟩ [1, 0] (by decide) rfl ?_
              rintro j hq27
              obtain ⟨hj, hno⟩ : j ≤ k ∧ ((cs.take j).any fun d => decide (d.to = e6.to)) = false := hq27
              show J _ _ [(1, .int .i64 self), (2, .int .i64 services), (3, .pointer (some ⟨g1, 0, none⟩)), (7, .int .i64 (k : Int)), (8, .pointer (some ⟨g7, 0, none⟩)), (9, .int .i64 (j : Int))] [var g1 [.int .i64 x0, .int .i64 x1, .int .i64 x2, .int .i64 x3, .int .i64 x4, .int .i64 x5, .int .i64 x6, .int .i64 x7, .int .i64 x8, .int .i64 x9, .int .i64 x10, .int .i64 x11, .int .i64 x12, cv] 26, var g7 [.int .i64 e6.to, .int .i64 e6.tier, .int .i64 e6.weight, .int .i64 e6.most] 38]
              refine J.seq ?_
              refine J.seq ?_
              refine J.region ?_
              refine O.p (Pu.move rfl) rfl ?_
              refine O.p (Pu.move rfl) rfl ?_
              refine O.p (Pu.lss rfl rfl) rfl ?_
              refine O.nil ?_
              refine J.cond rfl (fun h28 => ?_) (fun h28 => ?_)
              ·
                have p29 := of_decide_eq_true h28
                refine J.skip ?_
                refine J.seq ?_
                refine J.block ?_
                refine J.seq ?_
                refine J.drawStill Tryd.mixed (by kernel_rfl) ?_
                refine S.p (Pu.fieldAddr (off' := 13) Tryd.runUnderlying26 rfl Tryd.sizeOf24 rfl rfl rfl) rfl ?_
                refine S.q (Qt.ld rfl (Cel.var 0 rfl) (o := 0) (off := 13) rfl (Cut.one Tryd.isAgg24 rfl)) rfl ?_
                refine S.p (Pu.move rfl) rfl ?_
                obtain ⟨e30, he30⟩ : ∃ x_, cs[j]? = some x_ := ⟨_, List.getElem?_eq_getElem (by omega)⟩
                refine S.q (Qt.idxM Tryd.runUnderlying24 Tryd.sizeOf38 rfl (Src.ro 0 rfl) rfl (by omega) (by omega)) rfl ?_
                refine S.p (Pu.fieldAddr (off' := voff cv + ((j : Int)).toNat * 4 + 0) Tryd.runUnderlying38 rfl Tryd.sizeOf3 rfl rfl rfl) rfl ?_
                refine S.q (Qt.ld rfl (Cel.eltM (Src.ro 0 rfl) he30) (o := (voff cv + j * 4)) (off := 0) (by omega) (Cut.one Tryd.isAgg3 rfl)) rfl ?_
                refine S.p (Pu.fieldAddr (off' := 0) Tryd.runUnderlying38 rfl Tryd.sizeOf3 rfl rfl rfl) rfl ?_
                refine S.q (Qt.ld rfl (Cel.var 1 rfl) (o := 0) (off := 0) rfl (Cut.one Tryd.isAgg3 rfl)) rfl ?_
                refine S.p (Pu.eql rfl rfl) rfl ?_
                refine S.endJ ?_
                refine J.cond rfl (fun h31 => ?_) (fun h31 => ?_)
                ·
                  have p32 := of_decide_eq_true h31
                  refine J.seq ?_
                  refine J.region ?_
                  refine O.p (Pu.assign rfl) rfl ?_
                  refine O.nil ?_
                  exact J.ret (Fin.ret (rs := [.tmp 6]) rfl [_] ⟨rfl, trivial⟩ [] (by decide) [] rfl ⟨(by rw [Cf.callsOk_bad he6 (.inl (Cf.anyP_hit he30 (by omega) (by assumption)))]; rfl), rfl⟩)
                ·
                  have p33 := of_decide_eq_false h31
                  refine J.skip ?_
                  refine J.blk ?_
                  refine J.region ?_
                  refine O.p (Pu.move rfl) rfl ?_
                  refine O.p (Pu.add' rfl rfl (by first | omega | (simp only [List.length_append, List.length_cons, List.length_nil, List.length_set]; omega))) rfl ?_
                  refine O.p (Pu.assign rfl) rfl ?_
                  refine O.nil ?_
                  exact J.lp (j + 1) (show (j + 1) ≤ k ∧ ((cs.take (j + 1)).any fun d => decide (d.to = e6.to)) = false from ⟨by omega, Cf.anyP_next hno he30 (by assumption)⟩) (show k - (j + 1) < k - j from (by omega)) ⟨rfl, rfl, rfl, rfl, rfl, (congrArg (fun z => some (Value.int .i64 z)) (by first | rfl | omega : ((j : Int) + 1 : Int) = ((j + 1) : Int))), trivial⟩ [0, 1] (by decide) rfl
              ·
                have p34 := of_decide_eq_false h28
                refine J.exit _ rfl ?_
                refine J.blk ?_
                refine J.region ?_
                refine O.p (Pu.move rfl) rfl ?_
                refine O.p (Pu.add' rfl rfl (by first | omega | (simp only [List.length_append, List.length_cons, List.length_nil, List.length_set]; omega))) rfl ?_
                refine O.p (Pu.assign rfl) rfl ?_
                refine O.nil ?_
                exact J.lp (k + 1) (show (k + 1) ≤ cs.length ∧ Cf.okU cs x3 self services (k + 1) = true from ⟨by omega, Cf.okU_next hok he6 (by rw [show k = j from by omega]; exact hno) (by simp only [Cf.right, *, Bool.true_and, Bool.false_and, Bool.and_true, Bool.and_false, decide_true, decide_false, Bool.not_true, Bool.not_false])⟩) (show cs.length - (k + 1) < cs.length - k from (by omega)) ⟨rfl, rfl, rfl, (congrArg (fun z => some (Value.int .i64 z)) (by first | rfl | omega : ((k : Int) + 1 : Int) = ((k + 1) : Int))), trivial⟩ [0] (by decide) rfl
  ·
    have p35 := of_decide_eq_false h4
    refine J.exit _ rfl ?_
    refine J.seq ?_
    refine J.region ?_
    refine O.p (Pu.fieldAddr (off' := 13) Tryd.runUnderlying26 rfl Tryd.sizeOf24 rfl rfl rfl) rfl ?_
    refine O.q (Qt.ld rfl (Cel.var 0 rfl) (o := 0) (off := 13) rfl (Cut.one Tryd.isAgg24 rfl)) rfl ?_
    refine O.q (Qt.lenM Tryd.runUnderlying24 rfl (Src.ro 0 rfl)) rfl ?_
    refine O.p (Pu.leq rfl rfl) rfl ?_
    refine O.p (Pu.assign rfl) rfl ?_
    refine O.nil ?_
    exact J.ret (Fin.ret (rs := [.tmp 6]) rfl [_] ⟨rfl, trivial⟩ [] (by decide) [] rfl ⟨(by rw [Cf.callsOk_len hok (by omega) hk]; rfl), rfl⟩)

set_option maxRecDepth 100000 in
set_option maxHeartbeats 4000000 in
theorem r28_Check (x0 x1 x2 x3 x4 x5 x6 x7 x8 x9 x10 x11 x12 : Int) (cv : Value) (cs : List Cl) (self services levels : Int) (hl : cs.length ≤ 100000) : Tri Tryd.prog 24 #[.agg #[.int .i64 x0, .int .i64 x1, .int .i64 x2, .int .i64 x3, .int .i64 x4, .int .i64 x5, .int .i64 x6, .int .i64 x7, .int .i64 x8, .int .i64 x9, .int .i64 x10, .int .i64 x11, .int .i64 x12, cv], .int .i64 self, .int .i64 services, .int .i64 levels] [rd cv 4 (cs.map Cl.cells)] [] (fun v L' => v = .int .i64 (Cf.check [x0, x1, x2, x3, x4, x5, x6, x7, x8, x9, x10, x11, x12] cs self services levels) ∧ L' = []) := by
  refine Tri.enter (args := [.agg #[.int .i64 x0, .int .i64 x1, .int .i64 x2, .int .i64 x3, .int .i64 x4, .int .i64 x5, .int .i64 x6, .int .i64 x7, .int .i64 x8, .int .i64 x9, .int .i64 x10, .int .i64 x11, .int .i64 x12, cv], .int .i64 self, .int .i64 services, .int .i64 levels]) (body := _) 67 Tryd.func24 rfl Tryd.ntmps24 rfl ?_
  intro w0
  refine J.seq ?_
  refine J.region ?_
  refine O.one (Src.ro 0 rfl) (fun hV2 => ?_)
  refine O.l (Lo.box [.int .i64 x0, .int .i64 x1, .int .i64 x2, .int .i64 x3, .int .i64 x4, .int .i64 x5, .int .i64 x6, .int .i64 x7, .int .i64 x8, .int .i64 x9, .int .i64 x10, .int .i64 x11, .int .i64 x12, cv] rfl rfl) rfl ?_
  rintro _ _ ⟨g1, rfl, rfl⟩
  refine O.p (Pu.assign rfl) rfl ?_
  refine O.nil ?_
  refine J.seq ?_
  refine J.seq ?_
  refine J.region ?_
  refine O.p (Pu.move rfl) rfl ?_
  refine O.l (Lo.call [.int .i64 services, .int .i64 1, .int .i64 8] (by exact Tryd.call54) rfl (r28_from services 1 8) [] [0] (by decide) rfl [var g1 [.int .i64 x0, .int .i64 x1, .int .i64 x2, .int .i64 x3, .int .i64 x4, .int .i64 x5, .int .i64 x6, .int .i64 x7, .int .i64 x8, .int .i64 x9, .int .i64 x10, .int .i64 x11, .int .i64 x12, cv] 26] rfl RoOk.nil) rfl ?_
  rintro _ _ ⟨_, ⟨rfl, rfl⟩, rfl⟩
  refine O.p (Pu.not rfl) rfl ?_
  refine O.p (Pu.move rfl) rfl ?_
  refine by_bool (!(Cf.from_ services 1 8)) (fun h4 => ?_) (fun h4 => ?_)
  ·
    have h5 : (Cf.from_ services 1 8) = false := not_flip h4
    refine O.gskip (t := 12) rfl rfl (no_bool (by rw [h4]; decide)) rfl rfl ?_
    refine O.gskip (t := 12) rfl rfl (no_bool (by rw [h4]; decide)) rfl rfl ?_
    refine O.gskip (t := 12) rfl rfl (no_bool (by rw [h4]; decide)) rfl rfl ?_
    refine O.gskip (t := 12) rfl rfl (no_bool (by rw [h4]; decide)) rfl rfl ?_
    refine O.gskip (t := 12) rfl rfl (no_bool (by rw [h4]; decide)) rfl rfl ?_
    refine O.p (Pu.pickT rfl h4 rfl) rfl ?_
    refine O.p (Pu.move rfl) rfl ?_
    refine O.gskip (t := 19) rfl rfl (no_bool (by decide)) rfl rfl ?_
    refine O.gskip (t := 19) rfl rfl (no_bool (by decide)) rfl rfl ?_
    refine O.gskip (t := 19) rfl rfl (no_bool (by decide)) rfl rfl ?_
    refine O.gskip (t := 19) rfl rfl (no_bool (by decide)) rfl rfl ?_
    refine O.p (Pu.pickT rfl rfl rfl) rfl ?_
    refine O.p (Pu.move rfl) rfl ?_
    refine O.gskip (t := 25) rfl rfl (no_bool (by decide)) rfl rfl ?_
    refine O.gskip (t := 25) rfl rfl (no_bool (by decide)) rfl rfl ?_
    refine O.gskip (t := 25) rfl rfl (no_bool (by decide)) rfl rfl ?_
    refine O.gskip (t := 25) rfl rfl (no_bool (by decide)) rfl rfl ?_
    refine O.p (Pu.pickT rfl rfl rfl) rfl ?_
    refine O.p (Pu.move rfl) rfl ?_
    refine O.gskip (t := 31) rfl rfl (no_bool (by decide)) rfl rfl ?_
    refine O.gskip (t := 31) rfl rfl (no_bool (by decide)) rfl rfl ?_
    refine O.gskip (t := 31) rfl rfl (no_bool (by decide)) rfl rfl ?_
    refine O.gskip (t := 31) rfl rfl (no_bool (by decide)) rfl rfl ?_
    refine O.p (Pu.pickT rfl rfl rfl) rfl ?_
    refine O.p (Pu.move rfl) rfl ?_
    refine O.gskip (t := 37) rfl rfl (no_bool (by decide)) rfl rfl ?_
    refine O.gskip (t := 37) rfl rfl (no_bool (by decide)) rfl rfl ?_
    refine O.gskip (t := 37) rfl rfl (no_bool (by decide)) rfl rfl ?_
    refine O.gskip (t := 37) rfl rfl (no_bool (by decide)) rfl rfl ?_
    refine O.p (Pu.pickT rfl rfl rfl) rfl ?_
    refine O.p (Pu.move rfl) rfl ?_
    refine O.gskip (t := 43) rfl rfl (no_bool (by decide)) rfl rfl ?_
    refine O.gskip (t := 43) rfl rfl (no_bool (by decide)) rfl rfl ?_
    refine O.gskip (t := 43) rfl rfl (no_bool (by decide)) rfl rfl ?_
    refine O.gskip (t := 43) rfl rfl (no_bool (by decide)) rfl rfl ?_
    refine O.p (Pu.pickT rfl rfl rfl) rfl ?_
    refine O.p (Pu.move rfl) rfl ?_
    refine O.gskip (t := 49) rfl rfl (no_bool (by decide)) rfl rfl ?_
    refine O.gskip (t := 49) rfl rfl (no_bool (by decide)) rfl rfl ?_
    refine O.gskip (t := 49) rfl rfl (no_bool (by decide)) rfl rfl ?_
    refine O.gskip (t := 49) rfl rfl (no_bool (by decide)) rfl rfl ?_
    refine O.p (Pu.pickT rfl rfl rfl) rfl ?_
    refine O.nil ?_
    refine J.condT rfl rfl ?_
    refine J.seq ?_
    refine J.region ?_
    refine O.p (Pu.assign rfl) rfl ?_
    refine O.nil ?_
    exact J.ret (Fin.ret (rs := [.tmp 8]) rfl [_] ⟨rfl, trivial⟩ [] (by decide) [] rfl ⟨(by rw [Cf.check_no13 (by simp only [*, Bool.and_true, Bool.and_false, Bool.true_and, Bool.false_and])]; rfl), rfl⟩)
  ·
    have h6 : (Cf.from_ services 1 8) = true := not_flip h4
    refine O.gq (t := 12) rfl rfl h4 rfl (Pu.qt (Pu.move rfl)) rfl ?_
    refine O.gq (t := 12) rfl rfl h4 rfl (Pu.qt (Pu.move rfl)) rfl ?_
    refine O.gq (t := 12) rfl rfl h4 rfl (Pu.qt (Pu.sub' rfl rfl (by have h_ := Cf.from_bnd (by assumption : Cf.from_ services 1 8 = true); omega))) rfl ?_
    refine O.gl (t := 12) rfl rfl h4 rfl (Lo.call [.int .i64 self, .int .i64 0, .int .i64 (services - 1)] (by exact Tryd.call54) rfl (r28_from self 0 (services - 1)) [] [0] (by decide) rfl [var g1 [.int .i64 x0, .int .i64 x1, .int .i64 x2, .int .i64 x3, .int .i64 x4, .int .i64 x5, .int .i64 x6, .int .i64 x7, .int .i64 x8, .int .i64 x9, .int .i64 x10, .int .i64 x11, .int .i64 x12, cv] 26] rfl RoOk.nil) rfl ?_
    rintro _ _ ⟨_, ⟨rfl, rfl⟩, rfl⟩
    refine O.gq (t := 12) rfl rfl h4 rfl (Pu.qt (Pu.not rfl)) rfl ?_
    refine O.p (Pu.pickF rfl h4 rfl) rfl ?_
    refine O.p (Pu.move rfl) rfl ?_
    refine by_bool (!(Cf.from_ self 0 (services - 1))) (fun h8 => ?_) (fun h8 => ?_)
    ·
      have h9 : (Cf.from_ self 0 (services - 1)) = false := not_flip h8
      refine O.gskip (t := 19) rfl rfl (no_bool (by rw [h8]; decide)) rfl rfl ?_
      refine O.gskip (t := 19) rfl rfl (no_bool (by rw [h8]; decide)) rfl rfl ?_
      refine O.gskip (t := 19) rfl rfl (no_bool (by rw [h8]; decide)) rfl rfl ?_
      refine O.gskip (t := 19) rfl rfl (no_bool (by rw [h8]; decide)) rfl rfl ?_
      refine O.p (Pu.pickT rfl h8 rfl) rfl ?_
      refine O.p (Pu.move rfl) rfl ?_
      refine O.gskip (t := 25) rfl rfl (no_bool (by decide)) rfl rfl ?_
      refine O.gskip (t := 25) rfl rfl (no_bool (by decide)) rfl rfl ?_
      refine O.gskip (t := 25) rfl rfl (no_bool (by decide)) rfl rfl ?_
      refine O.gskip (t := 25) rfl rfl (no_bool (by decide)) rfl rfl ?_
      refine O.p (Pu.pickT rfl rfl rfl) rfl ?_
      refine O.p (Pu.move rfl) rfl ?_
      refine O.gskip (t := 31) rfl rfl (no_bool (by decide)) rfl rfl ?_
      refine O.gskip (t := 31) rfl rfl (no_bool (by decide)) rfl rfl ?_
      refine O.gskip (t := 31) rfl rfl (no_bool (by decide)) rfl rfl ?_
      refine O.gskip (t := 31) rfl rfl (no_bool (by decide)) rfl rfl ?_
      refine O.p (Pu.pickT rfl rfl rfl) rfl ?_
      refine O.p (Pu.move rfl) rfl ?_
      refine O.gskip (t := 37) rfl rfl (no_bool (by decide)) rfl rfl ?_
      refine O.gskip (t := 37) rfl rfl (no_bool (by decide)) rfl rfl ?_
      refine O.gskip (t := 37) rfl rfl (no_bool (by decide)) rfl rfl ?_
      refine O.gskip (t := 37) rfl rfl (no_bool (by decide)) rfl rfl ?_
      refine O.p (Pu.pickT rfl rfl rfl) rfl ?_
      refine O.p (Pu.move rfl) rfl ?_
      refine O.gskip (t := 43) rfl rfl (no_bool (by decide)) rfl rfl ?_
      refine O.gskip (t := 43) rfl rfl (no_bool (by decide)) rfl rfl ?_
      refine O.gskip (t := 43) rfl rfl (no_bool (by decide)) rfl rfl ?_
      refine O.gskip (t := 43) rfl rfl (no_bool (by decide)) rfl rfl ?_
      refine O.p (Pu.pickT rfl rfl rfl) rfl ?_
      refine O.p (Pu.move rfl) rfl ?_
      refine O.gskip (t := 49) rfl rfl (no_bool (by decide)) rfl rfl ?_
      refine O.gskip (t := 49) rfl rfl (no_bool (by decide)) rfl rfl ?_
      refine O.gskip (t := 49) rfl rfl (no_bool (by decide)) rfl rfl ?_
      refine O.gskip (t := 49) rfl rfl (no_bool (by decide)) rfl rfl ?_
      refine O.p (Pu.pickT rfl rfl rfl) rfl ?_
      refine O.nil ?_
      refine J.condT rfl rfl ?_
      refine J.seq ?_
      refine J.region ?_
      refine O.p (Pu.assign rfl) rfl ?_
      refine O.nil ?_
      exact J.ret (Fin.ret (rs := [.tmp 8]) rfl [_] ⟨rfl, trivial⟩ [] (by decide) [] rfl ⟨(by rw [Cf.check_no13 (by simp only [*, Bool.and_true, Bool.and_false, Bool.true_and, Bool.false_and])]; rfl), rfl⟩)
    ·
      have h10 : (Cf.from_ self 0 (services - 1)) = true := not_flip h8
      refine O.gq (t := 19) rfl rfl h8 rfl (Pu.qt (Pu.fieldAddr (off' := 0) Tryd.runUnderlying26 rfl Tryd.sizeOf3 rfl rfl rfl)) rfl ?_
      refine O.gq (t := 19) rfl rfl h8 rfl (Qt.ld rfl (Cel.var 0 rfl) (o := 0) (off := 0) rfl (Cut.one Tryd.isAgg3 rfl)) rfl ?_
      refine O.gl (t := 19) rfl rfl h8 rfl (Lo.call [.int .i64 x0, .int .i64 1, .int .i64 16] (by exact Tryd.call54) rfl (r28_from x0 1 16) [] [0] (by decide) rfl [var g1 [.int .i64 x0, .int .i64 x1, .int .i64 x2, .int .i64 x3, .int .i64 x4, .int .i64 x5, .int .i64 x6, .int .i64 x7, .int .i64 x8, .int .i64 x9, .int .i64 x10, .int .i64 x11, .int .i64 x12, cv] 26] rfl RoOk.nil) rfl ?_
      rintro _ _ ⟨_, ⟨rfl, rfl⟩, rfl⟩
      refine O.gq (t := 19) rfl rfl h8 rfl (Pu.qt (Pu.not rfl)) rfl ?_
      refine O.p (Pu.pickF rfl h8 rfl) rfl ?_
      refine O.p (Pu.move rfl) rfl ?_
      refine by_bool (!(Cf.from_ x0 1 16)) (fun h12 => ?_) (fun h12 => ?_)
      ·
        have h13 : (Cf.from_ x0 1 16) = false := not_flip h12
        refine O.gskip (t := 25) rfl rfl (no_bool (by rw [h12]; decide)) rfl rfl ?_
        refine O.gskip (t := 25) rfl rfl (no_bool (by rw [h12]; decide)) rfl rfl ?_
        refine O.gskip (t := 25) rfl rfl (no_bool (by rw [h12]; decide)) rfl rfl ?_
        refine O.gskip (t := 25) rfl rfl (no_bool (by rw [h12]; decide)) rfl rfl ?_
        refine O.p (Pu.pickT rfl h12 rfl) rfl ?_
        refine O.p (Pu.move rfl) rfl ?_
        refine O.gskip (t := 31) rfl rfl (no_bool (by decide)) rfl rfl ?_
        refine O.gskip (t := 31) rfl rfl (no_bool (by decide)) rfl rfl ?_
        refine O.gskip (t := 31) rfl rfl (no_bool (by decide)) rfl rfl ?_
        refine O.gskip (t := 31) rfl rfl (no_bool (by decide)) rfl rfl ?_
        refine O.p (Pu.pickT rfl rfl rfl) rfl ?_
        refine O.p (Pu.move rfl) rfl ?_
        refine O.gskip (t := 37) rfl rfl (no_bool (by decide)) rfl rfl ?_
        refine O.gskip (t := 37) rfl rfl (no_bool (by decide)) rfl rfl ?_
        refine O.gskip (t := 37) rfl rfl (no_bool (by decide)) rfl rfl ?_
        refine O.gskip (t := 37) rfl rfl (no_bool (by decide)) rfl rfl ?_
        refine O.p (Pu.pickT rfl rfl rfl) rfl ?_
        refine O.p (Pu.move rfl) rfl ?_
        refine O.gskip (t := 43) rfl rfl (no_bool (by decide)) rfl rfl ?_
        refine O.gskip (t := 43) rfl rfl (no_bool (by decide)) rfl rfl ?_
        refine O.gskip (t := 43) rfl rfl (no_bool (by decide)) rfl rfl ?_
        refine O.gskip (t := 43) rfl rfl (no_bool (by decide)) rfl rfl ?_
        refine O.p (Pu.pickT rfl rfl rfl) rfl ?_
        refine O.p (Pu.move rfl) rfl ?_
        refine O.gskip (t := 49) rfl rfl (no_bool (by decide)) rfl rfl ?_
        refine O.gskip (t := 49) rfl rfl (no_bool (by decide)) rfl rfl ?_
        refine O.gskip (t := 49) rfl rfl (no_bool (by decide)) rfl rfl ?_
        refine O.gskip (t := 49) rfl rfl (no_bool (by decide)) rfl rfl ?_
        refine O.p (Pu.pickT rfl rfl rfl) rfl ?_
        refine O.nil ?_
        refine J.condT rfl rfl ?_
        refine J.seq ?_
        refine J.region ?_
        refine O.p (Pu.assign rfl) rfl ?_
        refine O.nil ?_
        exact J.ret (Fin.ret (rs := [.tmp 8]) rfl [_] ⟨rfl, trivial⟩ [] (by decide) [] rfl ⟨(by rw [Cf.check_no13 (by simp only [*, Bool.and_true, Bool.and_false, Bool.true_and, Bool.false_and])]; rfl), rfl⟩)
      ·
        have h14 : (Cf.from_ x0 1 16) = true := not_flip h12
        refine O.gq (t := 25) rfl rfl h12 rfl (Pu.qt (Pu.fieldAddr (off' := 1) Tryd.runUnderlying26 rfl Tryd.sizeOf3 rfl rfl rfl)) rfl ?_
        refine O.gq (t := 25) rfl rfl h12 rfl (Qt.ld rfl (Cel.var 0 rfl) (o := 0) (off := 1) rfl (Cut.one Tryd.isAgg3 rfl)) rfl ?_
        refine O.gl (t := 25) rfl rfl h12 rfl (Lo.call [.int .i64 x1, .int .i64 1, .int .i64 64] (by exact Tryd.call54) rfl (r28_from x1 1 64) [] [0] (by decide) rfl [var g1 [.int .i64 x0, .int .i64 x1, .int .i64 x2, .int .i64 x3, .int .i64 x4, .int .i64 x5, .int .i64 x6, .int .i64 x7, .int .i64 x8, .int .i64 x9, .int .i64 x10, .int .i64 x11, .int .i64 x12, cv] 26] rfl RoOk.nil) rfl ?_
        rintro _ _ ⟨_, ⟨rfl, rfl⟩, rfl⟩
        refine O.gq (t := 25) rfl rfl h12 rfl (Pu.qt (Pu.not rfl)) rfl ?_
        refine O.p (Pu.pickF rfl h12 rfl) rfl ?_
        refine O.p (Pu.move rfl) rfl ?_
        refine by_bool (!(Cf.from_ x1 1 64)) (fun h16 => ?_) (fun h16 => ?_)
        ·
          have h17 : (Cf.from_ x1 1 64) = false := not_flip h16
          refine O.gskip (t := 31) rfl rfl (no_bool (by rw [h16]; decide)) rfl rfl ?_
          refine O.gskip (t := 31) rfl rfl (no_bool (by rw [h16]; decide)) rfl rfl ?_
          refine O.gskip (t := 31) rfl rfl (no_bool (by rw [h16]; decide)) rfl rfl ?_
          refine O.gskip (t := 31) rfl rfl (no_bool (by rw [h16]; decide)) rfl rfl ?_
          refine O.p (Pu.pickT rfl h16 rfl) rfl ?_
          refine O.p (Pu.move rfl) rfl ?_
          refine O.gskip (t := 37) rfl rfl (no_bool (by decide)) rfl rfl ?_
          refine O.gskip (t := 37) rfl rfl (no_bool (by decide)) rfl rfl ?_
          refine O.gskip (t := 37) rfl rfl (no_bool (by decide)) rfl rfl ?_
          refine O.gskip (t := 37) rfl rfl (no_bool (by decide)) rfl rfl ?_
          refine O.p (Pu.pickT rfl rfl rfl) rfl ?_
          refine O.p (Pu.move rfl) rfl ?_
          refine O.gskip (t := 43) rfl rfl (no_bool (by decide)) rfl rfl ?_
          refine O.gskip (t := 43) rfl rfl (no_bool (by decide)) rfl rfl ?_
          refine O.gskip (t := 43) rfl rfl (no_bool (by decide)) rfl rfl ?_
          refine O.gskip (t := 43) rfl rfl (no_bool (by decide)) rfl rfl ?_
          refine O.p (Pu.pickT rfl rfl rfl) rfl ?_
          refine O.p (Pu.move rfl) rfl ?_
          refine O.gskip (t := 49) rfl rfl (no_bool (by decide)) rfl rfl ?_
          refine O.gskip (t := 49) rfl rfl (no_bool (by decide)) rfl rfl ?_
          refine O.gskip (t := 49) rfl rfl (no_bool (by decide)) rfl rfl ?_
          refine O.gskip (t := 49) rfl rfl (no_bool (by decide)) rfl rfl ?_
          refine O.p (Pu.pickT rfl rfl rfl) rfl ?_
          refine O.nil ?_
          refine J.condT rfl rfl ?_
          refine J.seq ?_
          refine J.region ?_
          refine O.p (Pu.assign rfl) rfl ?_
          refine O.nil ?_
          exact J.ret (Fin.ret (rs := [.tmp 8]) rfl [_] ⟨rfl, trivial⟩ [] (by decide) [] rfl ⟨(by rw [Cf.check_no13 (by simp only [*, Bool.and_true, Bool.and_false, Bool.true_and, Bool.false_and])]; rfl), rfl⟩)
        ·
          have h18 : (Cf.from_ x1 1 64) = true := not_flip h16
          refine O.gq (t := 31) rfl rfl h16 rfl (Pu.qt (Pu.fieldAddr (off' := 2) Tryd.runUnderlying26 rfl Tryd.sizeOf3 rfl rfl rfl)) rfl ?_
          refine O.gq (t := 31) rfl rfl h16 rfl (Qt.ld rfl (Cel.var 0 rfl) (o := 0) (off := 2) rfl (Cut.one Tryd.isAgg3 rfl)) rfl ?_
          refine O.gl (t := 31) rfl rfl h16 rfl (Lo.call [.int .i64 x2, .int .i64 1, .int .i64 64] (by exact Tryd.call54) rfl (r28_from x2 1 64) [] [0] (by decide) rfl [var g1 [.int .i64 x0, .int .i64 x1, .int .i64 x2, .int .i64 x3, .int .i64 x4, .int .i64 x5, .int .i64 x6, .int .i64 x7, .int .i64 x8, .int .i64 x9, .int .i64 x10, .int .i64 x11, .int .i64 x12, cv] 26] rfl RoOk.nil) rfl ?_
          rintro _ _ ⟨_, ⟨rfl, rfl⟩, rfl⟩
          refine O.gq (t := 31) rfl rfl h16 rfl (Pu.qt (Pu.not rfl)) rfl ?_
          refine O.p (Pu.pickF rfl h16 rfl) rfl ?_
          refine O.p (Pu.move rfl) rfl ?_
          refine by_bool (!(Cf.from_ x2 1 64)) (fun h20 => ?_) (fun h20 => ?_)
          ·
            have h21 : (Cf.from_ x2 1 64) = false := not_flip h20
            refine O.gskip (t := 37) rfl rfl (no_bool (by rw [h20]; decide)) rfl rfl ?_
            refine O.gskip (t := 37) rfl rfl (no_bool (by rw [h20]; decide)) rfl rfl ?_
            refine O.gskip (t := 37) rfl rfl (no_bool (by rw [h20]; decide)) rfl rfl ?_
            refine O.gskip (t := 37) rfl rfl (no_bool (by rw [h20]; decide)) rfl rfl ?_
            refine O.p (Pu.pickT rfl h20 rfl) rfl ?_
            refine O.p (Pu.move rfl) rfl ?_
            refine O.gskip (t := 43) rfl rfl (no_bool (by decide)) rfl rfl ?_
            refine O.gskip (t := 43) rfl rfl (no_bool (by decide)) rfl rfl ?_
            refine O.gskip (t := 43) rfl rfl (no_bool (by decide)) rfl rfl ?_
            refine O.gskip (t := 43) rfl rfl (no_bool (by decide)) rfl rfl ?_
            refine O.p (Pu.pickT rfl rfl rfl) rfl ?_
            refine O.p (Pu.move rfl) rfl ?_
            refine O.gskip (t := 49) rfl rfl (no_bool (by decide)) rfl rfl ?_
            refine O.gskip (t := 49) rfl rfl (no_bool (by decide)) rfl rfl ?_
            refine O.gskip (t := 49) rfl rfl (no_bool (by decide)) rfl rfl ?_
            refine O.gskip (t := 49) rfl rfl (no_bool (by decide)) rfl rfl ?_
            refine O.p (Pu.pickT rfl rfl rfl) rfl ?_
            refine O.nil ?_
            refine J.condT rfl rfl ?_
            refine J.seq ?_
            refine J.region ?_
            refine O.p (Pu.assign rfl) rfl ?_
            refine O.nil ?_
            exact J.ret (Fin.ret (rs := [.tmp 8]) rfl [_] ⟨rfl, trivial⟩ [] (by decide) [] rfl ⟨(by rw [Cf.check_no13 (by simp only [*, Bool.and_true, Bool.and_false, Bool.true_and, Bool.false_and])]; rfl), rfl⟩)
          ·
            have h22 : (Cf.from_ x2 1 64) = true := not_flip h20
            refine O.gq (t := 37) rfl rfl h20 rfl (Pu.qt (Pu.fieldAddr (off' := 3) Tryd.runUnderlying26 rfl Tryd.sizeOf3 rfl rfl rfl)) rfl ?_
            refine O.gq (t := 37) rfl rfl h20 rfl (Qt.ld rfl (Cel.var 0 rfl) (o := 0) (off := 3) rfl (Cut.one Tryd.isAgg3 rfl)) rfl ?_
            refine O.gl (t := 37) rfl rfl h20 rfl (Lo.call [.int .i64 x3, .int .i64 0, .int .i64 7] (by exact Tryd.call54) rfl (r28_from x3 0 7) [] [0] (by decide) rfl [var g1 [.int .i64 x0, .int .i64 x1, .int .i64 x2, .int .i64 x3, .int .i64 x4, .int .i64 x5, .int .i64 x6, .int .i64 x7, .int .i64 x8, .int .i64 x9, .int .i64 x10, .int .i64 x11, .int .i64 x12, cv] 26] rfl RoOk.nil) rfl ?_
            rintro _ _ ⟨_, ⟨rfl, rfl⟩, rfl⟩
            refine O.gq (t := 37) rfl rfl h20 rfl (Pu.qt (Pu.not rfl)) rfl ?_
            refine O.p (Pu.pickF rfl h20 rfl) rfl ?_
            refine O.p (Pu.move rfl) rfl ?_
            refine by_bool (!(Cf.from_ x3 0 7)) (fun h24 => ?_) (fun h24 => ?_)
            ·
              have h25 : (Cf.from_ x3 0 7) = false := not_flip h24
              refine O.gskip (t := 43) rfl rfl (no_bool (by rw [h24]; decide)) rfl rfl ?_
              refine O.gskip (t := 43) rfl rfl (no_bool (by rw [h24]; decide)) rfl rfl ?_
              refine O.gskip (t := 43) rfl rfl (no_bool (by rw [h24]; decide)) rfl rfl ?_
              refine O.gskip (t := 43) rfl rfl (no_bool (by rw [h24]; decide)) rfl rfl ?_
              refine O.p (Pu.pickT rfl h24 rfl) rfl ?_
              refine O.p (Pu.move rfl) rfl ?_
              refine O.gskip (t := 49) rfl rfl (no_bool (by decide)) rfl rfl ?_
              refine O.gskip (t := 49) rfl rfl (no_bool (by decide)) rfl rfl ?_
              refine O.gskip (t := 49) rfl rfl (no_bool (by decide)) rfl rfl ?_
              refine O.gskip (t := 49) rfl rfl (no_bool (by decide)) rfl rfl ?_
              refine O.p (Pu.pickT rfl rfl rfl) rfl ?_
              refine O.nil ?_
              refine J.condT rfl rfl ?_
              refine J.seq ?_
              refine J.region ?_
              refine O.p (Pu.assign rfl) rfl ?_
              refine O.nil ?_
              exact J.ret (Fin.ret (rs := [.tmp 8]) rfl [_] ⟨rfl, trivial⟩ [] (by decide) [] rfl ⟨(by rw [Cf.check_no13 (by simp only [*, Bool.and_true, Bool.and_false, Bool.true_and, Bool.false_and])]; rfl), rfl⟩)
            ·
              have h26 : (Cf.from_ x3 0 7) = true := not_flip h24
              refine O.gq (t := 43) rfl rfl h24 rfl (Pu.qt (Pu.fieldAddr (off' := 4) Tryd.runUnderlying26 rfl Tryd.sizeOf3 rfl rfl rfl)) rfl ?_
              refine O.gq (t := 43) rfl rfl h24 rfl (Qt.ld rfl (Cel.var 0 rfl) (o := 0) (off := 4) rfl (Cut.one Tryd.isAgg3 rfl)) rfl ?_
              refine O.gl (t := 43) rfl rfl h24 rfl (Lo.call [.int .i64 x4, .int .i64 0, .int .i64 256] (by exact Tryd.call54) rfl (r28_from x4 0 256) [] [0] (by decide) rfl [var g1 [.int .i64 x0, .int .i64 x1, .int .i64 x2, .int .i64 x3, .int .i64 x4, .int .i64 x5, .int .i64 x6, .int .i64 x7, .int .i64 x8, .int .i64 x9, .int .i64 x10, .int .i64 x11, .int .i64 x12, cv] 26] rfl RoOk.nil) rfl ?_
              rintro _ _ ⟨_, ⟨rfl, rfl⟩, rfl⟩
              refine O.gq (t := 43) rfl rfl h24 rfl (Pu.qt (Pu.not rfl)) rfl ?_
              refine O.p (Pu.pickF rfl h24 rfl) rfl ?_
              refine O.p (Pu.move rfl) rfl ?_
              refine by_bool (!(Cf.from_ x4 0 256)) (fun h28 => ?_) (fun h28 => ?_)
              ·
                have h29 : (Cf.from_ x4 0 256) = false := not_flip h28
                refine O.gskip (t := 49) rfl rfl (no_bool (by rw [h28]; decide)) rfl rfl ?_
                refine O.gskip (t := 49) rfl rfl (no_bool (by rw [h28]; decide)) rfl rfl ?_
                refine O.gskip (t := 49) rfl rfl (no_bool (by rw [h28]; decide)) rfl rfl ?_
                refine O.gskip (t := 49) rfl rfl (no_bool (by rw [h28]; decide)) rfl rfl ?_
                refine O.p (Pu.pickT rfl h28 rfl) rfl ?_
                refine O.nil ?_
                refine J.condT rfl rfl ?_
                refine J.seq ?_
                refine J.region ?_
                refine O.p (Pu.assign rfl) rfl ?_
                refine O.nil ?_
                exact J.ret (Fin.ret (rs := [.tmp 8]) rfl [_] ⟨rfl, trivial⟩ [] (by decide) [] rfl ⟨(by rw [Cf.check_no13 (by simp only [*, Bool.and_true, Bool.and_false, Bool.true_and, Bool.false_and])]; rfl), rfl⟩)
              ·
                have h30 : (Cf.from_ x4 0 256) = true := not_flip h28
                refine O.gq (t := 49) rfl rfl h28 rfl (Pu.qt (Pu.fieldAddr (off' := 5) Tryd.runUnderlying26 rfl Tryd.sizeOf3 rfl rfl rfl)) rfl ?_
                refine O.gq (t := 49) rfl rfl h28 rfl (Qt.ld rfl (Cel.var 0 rfl) (o := 0) (off := 5) rfl (Cut.one Tryd.isAgg3 rfl)) rfl ?_
                refine O.gl (t := 49) rfl rfl h28 rfl (Lo.call [.int .i64 x5, .int .i64 0, .int .i64 1099511627776] (by exact Tryd.call54) rfl (r28_from x5 0 1099511627776) [] [0] (by decide) rfl [var g1 [.int .i64 x0, .int .i64 x1, .int .i64 x2, .int .i64 x3, .int .i64 x4, .int .i64 x5, .int .i64 x6, .int .i64 x7, .int .i64 x8, .int .i64 x9, .int .i64 x10, .int .i64 x11, .int .i64 x12, cv] 26] rfl RoOk.nil) rfl ?_
                rintro _ _ ⟨_, ⟨rfl, rfl⟩, rfl⟩
                refine O.gq (t := 49) rfl rfl h28 rfl (Pu.qt (Pu.not rfl)) rfl ?_
                refine O.p (Pu.pickF rfl h28 rfl) rfl ?_
                refine O.nil ?_
                refine J.cond rfl (fun h32 => ?_) (fun h32 => ?_)
                ·
                  have h33 : (Cf.from_ x5 0 1099511627776) = false := not_flip h32
                  refine J.seq ?_
                  refine J.region ?_
                  refine O.p (Pu.assign rfl) rfl ?_
                  refine O.nil ?_
                  exact J.ret (Fin.ret (rs := [.tmp 8]) rfl [_] ⟨rfl, trivial⟩ [] (by decide) [] rfl ⟨(by rw [Cf.check_no13 (by simp only [*, Bool.and_true, Bool.and_false, Bool.true_and, Bool.false_and])]; rfl), rfl⟩)
                ·
                  have h34 : (Cf.from_ x5 0 1099511627776) = true := not_flip h32
                  refine J.skip ?_
                  refine J.seq ?_
                  refine J.seq ?_
                  refine J.region ?_
                  refine O.p (Pu.fieldAddr (off' := 6) Tryd.runUnderlying26 rfl Tryd.sizeOf23 rfl rfl rfl) rfl ?_
                  refine O.q (Qt.ld rfl (Cel.var 0 rfl) (o := 0) (off := 6) rfl (Cut.agg [.int .i64 x6, .int .i64 x7, .int .i64 x8, .int .i64 x9, .int .i64 x10, .int .i64 x11, .int .i64 x12] Tryd.isAgg23 Tryd.sizeOf23 rfl rfl)) rfl ?_
                  refine O.p (Pu.move rfl) rfl ?_
                  refine O.l (Lo.call [.agg #[.int .i64 x6, .int .i64 x7, .int .i64 x8, .int .i64 x9, .int .i64 x10, .int .i64 x11, .int .i64 x12], .int .i64 levels] (by exact Tryd.call55) rfl (r18_Check x6 x7 x8 x9 x10 x11 x12 levels) [] [0] (by decide) rfl [var g1 [.int .i64 x0, .int .i64 x1, .int .i64 x2, .int .i64 x3, .int .i64 x4, .int .i64 x5, .int .i64 x6, .int .i64 x7, .int .i64 x8, .int .i64 x9, .int .i64 x10, .int .i64 x11, .int .i64 x12, cv] 26] rfl RoOk.nil) rfl ?_
                  rintro _ _ ⟨_, ⟨rfl, rfl⟩, rfl⟩
                  refine O.p (Pu.neq rfl rfl) rfl ?_
                  refine O.p (Pu.move rfl) rfl ?_
                  refine by_bool (decide ((Kn.check [x6, x7, x8, x9, x10, x11, x12] levels) ≠ 0)) (fun h36 => ?_) (fun h36 => ?_)
                  ·
                    have p37 := of_decide_eq_true h36
                    refine O.gskip (t := 60) rfl rfl (no_bool (by rw [h36]; decide)) rfl rfl ?_
                    refine O.gskip (t := 60) rfl rfl (no_bool (by rw [h36]; decide)) rfl rfl ?_
                    refine O.gskip (t := 60) rfl rfl (no_bool (by rw [h36]; decide)) rfl rfl ?_
                    refine O.gskip (t := 60) rfl rfl (no_bool (by rw [h36]; decide)) rfl rfl ?_
                    refine O.gskip (t := 60) rfl rfl (no_bool (by rw [h36]; decide)) rfl rfl ?_
                    refine O.p (Pu.pickT rfl h36 rfl) rfl ?_
                    refine O.nil ?_
                    refine J.condT rfl rfl ?_
                    refine J.seq ?_
                    refine J.region ?_
                    refine O.p (Pu.assign rfl) rfl ?_
                    refine O.nil ?_
                    exact J.ret (Fin.ret (rs := [.tmp 8]) rfl [_] ⟨rfl, trivial⟩ [] (by decide) [] rfl ⟨(by rw [Cf.check_ten13 (by assumption)]; rfl), rfl⟩)
                  ·
                    have p38 := of_decide_eq_false h36
                    refine O.gq (t := 60) rfl rfl h36 rfl (Qt.ld rfl (Cel.var 0 rfl) (o := 0) (off := 0) rfl (Cut.agg [.int .i64 x0, .int .i64 x1, .int .i64 x2, .int .i64 x3, .int .i64 x4, .int .i64 x5, .int .i64 x6, .int .i64 x7, .int .i64 x8, .int .i64 x9, .int .i64 x10, .int .i64 x11, .int .i64 x12, cv] Tryd.isAgg26 Tryd.sizeOf26 rfl rfl)) rfl ?_
                    refine O.gq (t := 60) rfl rfl h36 rfl (Pu.qt (Pu.move rfl)) rfl ?_
                    refine O.gq (t := 60) rfl rfl h36 rfl (Pu.qt (Pu.move rfl)) rfl ?_
                    refine O.gl (t := 60) rfl rfl h36 rfl (Lo.call [.agg #[.int .i64 x0, .int .i64 x1, .int .i64 x2, .int .i64 x3, .int .i64 x4, .int .i64 x5, .int .i64 x6, .int .i64 x7, .int .i64 x8, .int .i64 x9, .int .i64 x10, .int .i64 x11, .int .i64 x12, cv], .int .i64 self, .int .i64 services] (by exact Tryd.call56) rfl (r28_calls x0 x1 x2 x3 x4 x5 x6 x7 x8 x9 x10 x11 x12 cv cs self services (by have h_ := Cf.from_bnd (by assumption : Cf.from_ services 1 8 = true); omega) (by have h_ := Cf.from_bnd (by assumption : Cf.from_ services 1 8 = true); omega) hl) [] [0] (by decide) rfl [var g1 [.int .i64 x0, .int .i64 x1, .int .i64 x2, .int .i64 x3, .int .i64 x4, .int .i64 x5, .int .i64 x6, .int .i64 x7, .int .i64 x8, .int .i64 x9, .int .i64 x10, .int .i64 x11, .int .i64 x12, cv] 26] rfl (RoOk.ro 0 rfl [] rfl RoOk.nil)) rfl ?_
                    rintro _ _ ⟨_, ⟨rfl, rfl⟩, rfl⟩
                    refine O.gq (t := 60) rfl rfl h36 rfl (Pu.qt (Pu.not rfl)) rfl ?_
                    refine O.p (Pu.pickF rfl h36 rfl) rfl ?_
                    refine O.nil ?_
                    refine J.cond rfl (fun h40 => ?_) (fun h40 => ?_)
                    ·
                      have h41 : (Cf.callsOk cs x3 self services) = false := not_flip h40
                      refine J.seq ?_
                      refine J.region ?_
                      refine O.p (Pu.assign rfl) rfl ?_
                      refine O.nil ?_
                      exact J.ret (Fin.ret (rs := [.tmp 8]) rfl [_] ⟨rfl, trivial⟩ [] (by decide) [] rfl ⟨(by rw [Cf.check_no13 (by simp only [*, Bool.and_true, Bool.and_false, Bool.true_and, Bool.false_and])]; rfl), rfl⟩)
                    ·
                      have h42 : (Cf.callsOk cs x3 self services) = true := not_flip h40
                      refine J.skip ?_
                      refine J.seq ?_
                      refine J.region ?_
                      refine O.p (Pu.assign rfl) rfl ?_
                      refine O.nil ?_
                      exact J.ret (Fin.ret (rs := [.tmp 8]) rfl [_] ⟨rfl, trivial⟩ [] (by decide) [] rfl ⟨(by rw [Cf.check_yes13 (by assumption) (by assumption) (by simp only [*, Bool.and_true]) (by assumption)]; exact congrArg (Value.int .i64) (Eq.symm (Decidable.not_not.1 (by assumption : ¬ Kn.check [x6, x7, x8, x9, x10, x11, x12] levels ≠ 0)))), rfl⟩)

set_option maxRecDepth 100000 in
theorem r28_Some (lv : Value) (l : List Cl) (r : Bool) (hl : l.length ≤ 100000) : Tri Tryd.prog 26 #[lv, .bool r] [rd lv 4 (l.map Cl.cells)] [] (fun v L' => L' = [row v 38 4 ((l.filter (Cf.want r)).map Cl.cells)]) := by
  refine Tri.enter (args := [lv, .bool r]) (body := _) 29 Tryd.func26 rfl Tryd.ntmps26 rfl ?_
  intro w0
  refine J.seq ?_
  refine J.region ?_
  refine O.p (Pu.assign rfl) rfl ?_
  refine O.nil ?_
  refine J.seq ?_
  refine J.region ?_
  refine O.p (Pu.assign rfl) rfl ?_
  refine O.nil ?_
  refine J.seq ?_
  refine J.seq ?_
  refine J.region ?_
  refine O.p (Pu.assign rfl) rfl ?_
  refine O.nil ?_
  refine J.block ?_
  refine J.nilRow 38 4 ?_
  refine J.loop (X := Nat × Value × List Cl) (fun ξ => ξ.1 ≤ l.length ∧ ξ.2.2 = (l.take ξ.1).filter (Cf.want r) ∧ ξ.2.2.length ≤ ξ.1) (fun ξ => [(0, lv), (1, .bool r), (4, Value.slice none 0 0), (5, ξ.2.1), (6, .int .i64 (ξ.1 : Int))]) (fun ξ => [row ξ.2.1 38 4 (ξ.2.2.map Cl.cells)]) (fun ξ => l.length - ξ.1) ⟨0, Value.slice none 0 0, []⟩ (show 0 ≤ l.length ∧ ([]) = (l.take 0).filter (Cf.want r) ∧ ([]).length ≤ 0 from ⟨by omega, by simp, by simp⟩) ⟨rfl, rfl, rfl, rfl, (congrArg (fun z => some (Value.int .i64 z)) (by first | rfl | omega : (0 : Int) = (0 : Int))), trivial⟩ [0] (by decide) rfl ?_
  rintro ⟨k, V, out⟩ hq1
  obtain ⟨hk, hst, hlen⟩ : k ≤ l.length ∧ out = (l.take k).filter (Cf.want r) ∧ out.length ≤ k := hq1
  show J _ _ [(0, lv), (1, .bool r), (4, Value.slice none 0 0), (5, V), (6, .int .i64 (k : Int))] [row V 38 4 (out.map Cl.cells)]
  refine J.seq ?_
  refine J.seq ?_
  refine J.region ?_
  refine O.p (Pu.move rfl) rfl ?_
  refine O.p (Pu.move rfl) rfl ?_
  refine O.q (Qt.lenM Tryd.runUnderlying24 rfl (Src.ro 0 rfl)) rfl ?_
  refine O.p (Pu.lss rfl rfl) rfl ?_
  refine O.nil ?_
  refine J.cond rfl (fun h2 => ?_) (fun h2 => ?_)
  ·
    have p3 := of_decide_eq_true h2
    refine J.skip ?_
    refine J.seq ?_
    refine J.block ?_
    refine J.seq ?_
    refine J.region ?_
    refine O.p (Pu.move rfl) rfl ?_
    refine O.p (Pu.move rfl) rfl ?_
    obtain ⟨e4, he4⟩ : ∃ x_, l[k]? = some x_ := ⟨_, List.getElem?_eq_getElem (by first | omega | (simp only [List.length_append, List.length_cons, List.length_nil]; omega))⟩
    refine O.q (Qt.idxM Tryd.runUnderlying24 Tryd.sizeOf38 rfl (Src.ro 0 rfl) rfl (by first | omega | (simp only [List.length_append, List.length_cons, List.length_nil]; omega)) (by first | omega | (simp only [List.length_append, List.length_cons, List.length_nil]; omega))) rfl ?_
    refine O.p (Pu.fieldAddr (off' := voff lv + ((k : Int)).toNat * 4 + 1) Tryd.runUnderlying38 rfl Tryd.sizeOf3 rfl rfl rfl) rfl ?_
    refine O.q (Qt.ld rfl (Cel.eltM (Src.ro 0 rfl) he4) (o := (voff lv + k * 4)) (off := 1) (by omega) (Cut.one Tryd.isAgg3 rfl)) rfl ?_
    refine O.p (Pu.eql rfl rfl) rfl ?_
    refine O.p (Pu.move rfl) rfl ?_
    refine O.p (Pu.beql Tryd.underlying4 rfl rfl) rfl ?_
    refine O.nil ?_
    refine J.cond rfl (fun h5 => ?_) (fun h5 => ?_)
    ·
      refine J.region ?_
      refine O.p (Pu.move rfl) rfl ?_
      refine O.p (Pu.move rfl) rfl ?_
      refine O.p (Pu.move rfl) rfl ?_
      refine O.q (Qt.idxM Tryd.runUnderlying24 Tryd.sizeOf38 rfl (Src.ro 0 rfl) rfl (by first | omega | (simp only [List.length_append, List.length_cons, List.length_nil]; omega)) (by first | omega | (simp only [List.length_append, List.length_cons, List.length_nil]; omega))) rfl ?_
      refine O.q (Qt.ld rfl (Cel.eltM (Src.ro 0 rfl) he4) (o := (voff lv + k * 4)) (off := 0) (by omega) (Cut.agg [.int .i64 e4.to, .int .i64 e4.tier, .int .i64 e4.weight, .int .i64 e4.most] Tryd.isAgg38 Tryd.sizeOf38 rfl rfl)) rfl ?_
      refine O.l (Lo.buildM (s := 4) Cl.cells [e4] [(0, .agg #[.int .i64 e4.to, .int .i64 e4.tier, .int .i64 e4.weight, .int .i64 e4.most])] (by exact Tryd.runUnderlying24) (by exact Tryd.sizeOf38) (by exact Tryd.zeroValue38) rfl rfl rfl (by kernel_rfl) rfl rfl) rfl ?_
      rintro V6 _ rfl
      refine O.l (Lo.appendM (s := 4) 1 (by exact Tryd.underlying24) (by exact (info38).1) (by exact (info38).2.1) (by exact (info38).2.2.1) (by exact (info38).2.2.2) rfl rfl rfl rfl rfl (Src.row 0 rfl) Cl.one (by first | omega | (simp only [List.length_append, List.length_cons, List.length_nil]; omega)) (by first | omega | (simp only [List.length_append, List.length_cons, List.length_nil]; omega))) rfl ?_
      rintro V7 _ rfl
      refine O.p (Pu.assign rfl) rfl ?_
      refine O.nil ?_
      refine J.blk ?_
      refine J.region ?_
      refine O.p (Pu.move rfl) rfl ?_
      refine O.p (Pu.add' rfl rfl (by first | omega | (simp only [List.length_append, List.length_cons, List.length_nil, List.length_set]; omega))) rfl ?_
      refine O.p (Pu.assign rfl) rfl ?_
      refine O.nil ?_
      exact J.lp ⟨k + 1, V7, out ++ ([e4])⟩ (show (k + 1) ≤ l.length ∧ (out ++ ([e4])) = (l.take (k + 1)).filter (Cf.want r) ∧ (out ++ ([e4])).length ≤ (k + 1) from ⟨by omega, (by rw [hst]; first | exact (Cf.sel_yes (p := Cf.want r) he4 (by assumption)).symm | exact (Cf.sel_no (p := Cf.want r) he4 (by assumption)).symm), by first | omega | (simp only [List.length_append, List.length_cons, List.length_nil]; omega)⟩) (show l.length - (k + 1) < l.length - k from (by first | omega | (simp only [List.length_append, List.length_cons, List.length_nil]; omega))) ⟨rfl, rfl, rfl, rfl, (congrArg (fun z => some (Value.int .i64 z)) (by first | rfl | omega : ((k : Int) + 1 : Int) = ((k + 1) : Int))), trivial⟩ [1] (by decide) rfl
    ·
      refine J.skip ?_
      refine J.blk ?_
      refine J.region ?_
      refine O.p (Pu.move rfl) rfl ?_
      refine O.p (Pu.add' rfl rfl (by first | omega | (simp only [List.length_append, List.length_cons, List.length_nil, List.length_set]; omega))) rfl ?_
      refine O.p (Pu.assign rfl) rfl ?_
      refine O.nil ?_
      exact J.lp ⟨k + 1, V, out⟩ (show (k + 1) ≤ l.length ∧ out = (l.take (k + 1)).filter (Cf.want r) ∧ out.length ≤ (k + 1) from ⟨by omega, (by rw [hst]; first | exact (Cf.sel_yes (p := Cf.want r) he4 (by assumption)).symm | exact (Cf.sel_no (p := Cf.want r) he4 (by assumption)).symm), by first | omega | (simp only [List.length_append, List.length_cons, List.length_nil]; omega)⟩) (show l.length - (k + 1) < l.length - k from (by first | omega | (simp only [List.length_append, List.length_cons, List.length_nil]; omega))) ⟨rfl, rfl, rfl, rfl, (congrArg (fun z => some (Value.int .i64 z)) (by first | rfl | omega : ((k : Int) + 1 : Int) = ((k + 1) : Int))), trivial⟩ [0] (by decide) rfl
  ·
    have p8 := of_decide_eq_false h2
    refine J.exit _ rfl ?_
    refine J.seq ?_
    refine J.region ?_
    refine O.p (Pu.move rfl) rfl ?_
    refine O.p (Pu.assign rfl) rfl ?_
    refine O.nil ?_
    exact J.ret (Fin.ret (rs := [.tmp 4]) rfl [_] ⟨rfl, trivial⟩ [0] (by decide) [row V 38 4 (out.map Cl.cells)] rfl (congrArg (fun o => ([row V 38 4 (o.map Cl.cells)] : List Sp)) (show out = l.filter (Cf.want r) from (by rw [hst]; exact Cf.sel_all (by omega)))))

end Go.Proofs.YtilcmkegbmppnaaDoor
