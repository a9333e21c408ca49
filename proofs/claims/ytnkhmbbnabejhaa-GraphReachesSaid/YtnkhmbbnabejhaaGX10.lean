/-
  Walks, printed by a program of mine (lk.py): each function meets its contract.
-/
import Derived.KernelRfl
import Derived.Test.YtnkhmbbnabejhaaGX7
namespace Go.Proofs.Ytnkhmbbnabejhaa
open Go Go.LK
set_option linter.unusedSimpArgs false

set_option maxRecDepth 100000 in
set_option maxHeartbeats 2000000 in
theorem law29_graphReaches (cv : Value) (cs : List Lz) : Tri Try.prog 10 #[cv] [rd cv 1 (cs.map Lz.cells), ros (cs.map Lz.rd)] [] (fun v L' => v = .bool true ∧ L' = []) := by
 refine Tri.enter (args := [cv]) (body := _) 108 Try.func10 rfl Try.ntmps10 rfl ?_
 intro w0
 refine J.seq ?_
 refine J.region ?_
 refine O.p (Pu.assign rfl) rfl ?_
 refine O.nil ?_
 refine J.seq ?_
 refine by_bool (decide (8 < cs.length)) (fun h1 => ?_) (fun h1 => ?_)
 ·
  have p2 := of_decide_eq_true h1
  refine J.region ?_
  refine O.p (Pu.move rfl) rfl ?_
  refine O.l (Lo.call [cv] (by exact Try.call38) rfl (l29_ofNo cv cs (of_decide_eq_true h1)) [] [] (by decide) rfl [] rfl (RoOk.ro 0 rfl [] rfl (RoOk.ro 1 rfl [] rfl RoOk.nil))) rfl ?_
  rintro _ _ ⟨_, ⟨rfl, rfl⟩, rfl⟩
  refine O.p (Pu.move rfl) rfl ?_
  refine O.p (Pu.extract rfl rfl) rfl ?_
  refine O.p (Pu.extract rfl rfl) rfl ?_
  refine O.p (Pu.assign rfl) rfl ?_
  refine O.p (Pu.assign rfl) rfl ?_
  refine O.nil ?_
  refine J.seq ?_
  refine J.seq ?_
  refine J.region ?_
  refine O.p (Pu.move rfl) rfl ?_
  refine O.p (Pu.not rfl) rfl ?_
  refine O.nil ?_
  refine J.condT rfl rfl ?_
  refine J.seq ?_
  refine J.region ?_
  refine O.l (Lo.call [] (by exact Try.call39) rfl l29_awake [] [] (by decide) rfl [] rfl RoOk.nil) rfl ?_
  rintro _ _ ⟨_, ⟨rfl, rfl⟩, rfl⟩
  refine O.p (Pu.assign rfl) rfl ?_
  refine O.nil ?_
  exact J.ret (Fin.ret (rs := [.tmp 2]) rfl [_] ⟨rfl, trivial⟩ [] (by decide) [] rfl ⟨rfl, rfl⟩)
 ·
  have p6 := of_decide_eq_false h1
  refine J.region ?_
  refine O.p (Pu.move rfl) rfl ?_
  refine O.l (Lo.call [cv] (by exact Try.call38) rfl (l29_of cv cs (of_decide_eq_false h1)) [] [] (by decide) rfl [] rfl (RoOk.ro 0 rfl [] rfl (RoOk.ro 1 rfl [] rfl RoOk.nil))) rfl ?_
  rintro _ _ ⟨_, ⟨V7, l7, hg7, rfl, rfl⟩, rfl⟩
  obtain ⟨hk7, hc7⟩ := Gr.of_small hg7 (of_decide_eq_false h1)
  have hl7 : l7.length ≤ 1000 := by omega
  have hgl7 := gOf_len (l := l7)
  refine O.p (Pu.move rfl) rfl ?_
  refine O.p (Pu.extract rfl rfl) rfl ?_
  refine O.p (Pu.extract rfl rfl) rfl ?_
  refine O.p (Pu.assign rfl) rfl ?_
  refine O.p (Pu.assign rfl) rfl ?_
  refine O.nil ?_
  refine J.seq ?_
  refine J.seq ?_
  refine J.region ?_
  refine O.p (Pu.move rfl) rfl ?_
  refine O.p (Pu.not rfl) rfl ?_
  refine O.nil ?_
  refine J.condF rfl rfl ?_
  refine J.skip ?_
  refine J.seq ?_
  refine J.region ?_
  refine O.p (Pu.assign rfl) rfl ?_
  refine O.nil ?_
  refine J.seq ?_
  refine J.seq ?_
  refine J.region ?_
  refine O.p (Pu.assign rfl) rfl ?_
  refine O.nil ?_
  refine J.block ?_
  refine J.loop (X := Nat × Bool) (fun ξ => ξ.1 ≤ l7.length ∧ (ξ.2 = true ↔ ∃ c, c < ξ.1 ∧ Gr.Path (Gr.e (gOf l7)) c c)) (fun ξ => [(3, V7), (5, .bool ξ.2), (6, .int .i64 (ξ.1 : Int))]) (fun ξ => [row V7 104 14 (l7.map Sg.cells), bun (l7.map (Sg.row 106))]) (fun ξ => l7.length - ξ.1) ⟨0, false⟩ (show 0 ≤ l7.length ∧ (false = true ↔ ∃ c, c < 0 ∧ Gr.Path (Gr.e (gOf l7)) c c) from ⟨by omega, ⟨fun h_ => (by cases h_), fun ⟨c, hc_, _⟩ => absurd hc_ (Nat.not_lt_zero _)⟩⟩) ⟨rfl, rfl, (congrArg (fun z => some (Value.int .i64 z)) (by first | rfl | omega : (0 : Int) = (0 : Int))), trivial⟩ [0, 1] (by decide) rfl ?_
  rintro ⟨i, r⟩ hq9
  obtain ⟨hi, hr⟩ : i ≤ l7.length ∧ (r = true ↔ ∃ c, c < i ∧ Gr.Path (Gr.e (gOf l7)) c c) := hq9
  show J _ _ [(3, V7), (5, .bool r), (6, .int .i64 (i : Int))] [row V7 104 14 (l7.map Sg.cells), bun (l7.map (Sg.row 106))]
  refine J.seq ?_
  refine J.seq ?_
  refine J.region ?_
  refine O.p (Pu.move rfl) rfl ?_
  refine O.p (Pu.move rfl) rfl ?_
  refine O.q (Qt.lenM Try.runUnderlying70 rfl (Src.row 0 rfl)) rfl ?_
  refine O.p (Pu.lss rfl rfl) rfl ?_
  refine O.nil ?_
  refine J.cond rfl (fun h10 => ?_) (fun h10 => ?_)
  ·
   have p11 := of_decide_eq_true h10
   refine J.skip ?_
   refine J.seq ?_
   refine J.block ?_
   refine J.seq ?_
   refine J.region ?_
   refine O.p (Pu.move rfl) rfl ?_
   refine O.q (Qt.lenM Try.runUnderlying70 rfl (Src.row 0 rfl)) rfl ?_
   refine O.l (Lo.makeSliceN (z := (false : Bool)) (f := encBo) (m := l7.length) (s := 1) (bytes := 1) (by exact Try.runUnderlying33) (fun w => run_typeInfo w (by exact (info4).1)) (by exact (info4).2.2.2) (by exact Try.sizeOf4) (by exact Try.zeroValue4) rfl rfl (by omega) (by omega) (by decide) rfl rfl (by decide) rfl) rfl ?_
   rintro V12 _ rfl
   refine O.p (Pu.assign rfl) rfl ?_
   refine O.nil ?_
   refine J.seq ?_
   refine J.seq ?_
   refine J.region ?_
   refine O.p (Pu.assign rfl) rfl ?_
   refine O.nil ?_
   refine J.block ?_
   refine J.loop (X := Nat × List Bool) (fun ξ => ξ.1 ≤ l7.length ∧ Gr.WI (gOf l7) i ξ.1 ξ.2) (fun ξ => [(3, V7), (5, .bool r), (6, .int .i64 (i : Int)), (7, V12), (8, .int .i64 (ξ.1 : Int))]) (fun ξ => [row V12 4 1 (ξ.2.map encBo), row V7 104 14 (l7.map Sg.cells), bun (l7.map (Sg.row 106))]) (fun ξ => l7.length - ξ.1) ⟨0, List.replicate l7.length (false : Bool)⟩ (show 0 ≤ l7.length ∧ Gr.WI (gOf l7) i 0 (List.replicate l7.length (false : Bool)) from ⟨by omega, by rw [← hgl7]; exact Gr.WI.zero⟩) ⟨rfl, rfl, rfl, rfl, (congrArg (fun z => some (Value.int .i64 z)) (by first | rfl | omega : (0 : Int) = (0 : Int))), trivial⟩ [0, 1, 2] (by decide) rfl ?_
   rintro ⟨k, mb⟩ hq13
   obtain ⟨hk, hw⟩ : k ≤ l7.length ∧ Gr.WI (gOf l7) i k mb := hq13
   show J _ _ [(3, V7), (5, .bool r), (6, .int .i64 (i : Int)), (7, V12), (8, .int .i64 (k : Int))] [row V12 4 1 (mb.map encBo), row V7 104 14 (l7.map Sg.cells), bun (l7.map (Sg.row 106))]
   refine J.seq ?_
   refine J.seq ?_
   refine J.region ?_
   refine O.p (Pu.move rfl) rfl ?_
   refine O.p (Pu.move rfl) rfl ?_
   refine O.q (Qt.lenM Try.runUnderlying70 rfl (Src.row 1 rfl)) rfl ?_
   refine O.p (Pu.lss rfl rfl) rfl ?_
   refine O.nil ?_
   refine J.cond rfl (fun h14 => ?_) (fun h14 => ?_)
   ·
    have p15 := of_decide_eq_true h14
    refine J.skip ?_
    refine J.seq ?_
    refine J.block ?_
    refine J.seq ?_
    refine J.seq ?_
    refine J.region ?_
    refine O.p (Pu.move rfl) rfl ?_
    refine O.p (Pu.move rfl) rfl ?_
    refine O.p (Pu.move rfl) rfl ?_
    refine O.l (Lo.call [V7, .int .i64 (i : Int), .int .i64 (k : Int)] (by exact Try.call50) rfl (r29_Calls V7 l7 (i : Int) (k : Int) hl7 hc7) [] [0, 1, 2] (by decide) rfl [row V12 4 1 (mb.map encBo), row V7 104 14 (l7.map Sg.cells), bun (l7.map (Sg.row 106))] rfl (RoOk.of 1 rfl row_rd [] (by decide) rfl (RoOk.of 2 rfl sg_ros [] (by decide) rfl RoOk.nil))) rfl ?_
    rintro _ _ ⟨_, ⟨rfl, rfl⟩, rfl⟩
    refine O.p (Pu.not rfl) rfl ?_
    refine O.nil ?_
    refine J.cond rfl (fun h17 => ?_) (fun h17 => ?_)
    ·
     have h18 : (Gr.calls (gOf l7) (i : Int) (k : Int)) = false := not_flip h17
     refine J.exit _ rfl ?_
     refine J.region ?_
     refine O.p (Pu.move rfl) rfl ?_
     refine O.p (Pu.add' rfl rfl (by omega)) rfl ?_
     refine O.p (Pu.assign rfl) rfl ?_
     refine O.nil ?_
     exact J.lp ⟨k + 1, mb⟩ (show (k + 1) ≤ l7.length ∧ Gr.WI (gOf l7) i (k + 1) mb from ⟨by omega, hw.skip (by rw [← Gr.calls_e]; exact h18)⟩) (show l7.length - (k + 1) < l7.length - k from (by first | omega | (simp only [List.length_append, List.length_cons, List.length_nil, List.length_set]; omega))) ⟨rfl, rfl, rfl, rfl, (congrArg (fun z => some (Value.int .i64 z)) (by first | rfl | omega : ((k : Int) + 1 : Int) = ((k + 1) : Int))), trivial⟩ [0, 1, 2] (by decide) rfl
    ·
     have h19 : (Gr.calls (gOf l7) (i : Int) (k : Int)) = true := not_flip h17
     refine J.skip ?_
     refine J.seq ?_
     have hwl : mb.length = l7.length := by rw [hw.len, hgl7]
     refine J.region ?_
     refine O.p (Pu.move rfl) rfl ?_
     refine O.p (Pu.move rfl) rfl ?_
     obtain ⟨e20, he20⟩ : ∃ x_, mb[k]? = some x_ := ⟨_, List.getElem?_eq_getElem (by first | omega | (simp only [List.length_append, List.length_cons, List.length_nil, List.length_set]; omega))⟩
     refine O.q (Qt.idxM Try.runUnderlying33 Try.sizeOf4 rfl (Src.row 0 rfl) rfl (by first | omega | (simp only [List.length_append, List.length_cons, List.length_nil, List.length_set]; omega)) (by first | omega | (simp only [List.length_append, List.length_cons, List.length_nil, List.length_set]; omega))) rfl ?_
     refine O.l0 (Lo.storeM 0 (j := k) (off := 0) (vs := [.bool true]) (e := [.bool e20]) true rfl rfl rfl rfl (by omega) he20 rfl (by exact Try.sizeOf4) rfl rfl rfl rfl rfl) ?_
     rintro _ _ rfl
     have hs21 : (mb.set k true)[k]? = some true := List.getElem?_set_self (List.getElem?_eq_some_iff.1 he20).1
     refine O.nil ?_
     refine J.seq ?_
     refine J.region ?_
     refine O.p (Pu.move rfl) rfl ?_
     refine O.p (Pu.move rfl) rfl ?_
     refine O.l (Lo.call [.int .i64 (k : Int), V7] (by exact Try.call47) rfl (g_Reach V7 l7 (k : Int) hl7 hc7) [] [0, 1, 2] (by decide) rfl [row V12 4 1 ((mb.set k true).map encBo), row V7 104 14 (l7.map Sg.cells), bun (l7.map (Sg.row 106))] rfl (RoOk.of 1 rfl row_rd [] (by decide) rfl (RoOk.of 2 rfl sg_ros [] (by decide) rfl RoOk.nil))) rfl ?_
     rintro v22 _ ⟨_, rfl, rfl⟩
     refine O.p (Pu.assign rfl) rfl ?_
     refine O.nil ?_
     refine J.seq ?_
     refine J.region ?_
     refine O.p (Pu.assign rfl) rfl ?_
     refine O.nil ?_
     refine J.block ?_
     refine J.loop (X := Nat × List Bool) (fun ξ => ξ.1 ≤ (Gr.reachI (gOf l7) (k : Int)).length ∧ Gr.WQ (gOf l7) i k ξ.2 ξ.1) (fun ξ => [(3, V7), (5, .bool r), (6, .int .i64 (i : Int)), (7, V12), (8, .int .i64 (k : Int)), (9, v22), (10, .int .i64 (ξ.1 : Int))]) (fun ξ => [row v22 3 1 ((Gr.reachI (gOf l7) (k : Int)).map encZ), row V12 4 1 (ξ.2.map encBo), row V7 104 14 (l7.map Sg.cells), bun (l7.map (Sg.row 106))]) (fun ξ => (Gr.reachI (gOf l7) (k : Int)).length - ξ.1) ⟨0, mb.set k true⟩ (show 0 ≤ (Gr.reachI (gOf l7) (k : Int)).length ∧ Gr.WQ (gOf l7) i k (mb.set k true) 0 from ⟨by omega, hw.start (by omega)⟩) ⟨rfl, rfl, rfl, rfl, rfl, rfl, (congrArg (fun z => some (Value.int .i64 z)) (by first | rfl | omega : (0 : Int) = (0 : Int))), trivial⟩ [0, 1, 2, 3] (by decide) rfl ?_
     rintro ⟨q, mb2⟩ hq23
     obtain ⟨hq, hw2⟩ : q ≤ (Gr.reachI (gOf l7) (k : Int)).length ∧ Gr.WQ (gOf l7) i k mb2 q := hq23
     show J _ _ [(3, V7), (5, .bool r), (6, .int .i64 (i : Int)), (7, V12), (8, .int .i64 (k : Int)), (9, v22), (10, .int .i64 (q : Int))] [row v22 3 1 ((Gr.reachI (gOf l7) (k : Int)).map encZ), row V12 4 1 (mb2.map encBo), row V7 104 14 (l7.map Sg.cells), bun (l7.map (Sg.row 106))]
     refine J.seq ?_
     refine J.seq ?_
     refine J.region ?_
     refine O.p (Pu.move rfl) rfl ?_
     refine O.p (Pu.move rfl) rfl ?_
     refine O.q (Qt.lenM Try.runUnderlying24 rfl (Src.row 0 rfl)) rfl ?_
     refine O.p (Pu.lss rfl rfl) rfl ?_
     refine O.nil ?_
     refine J.cond rfl (fun h24 => ?_) (fun h24 => ?_)
     ·
      have p25 := of_decide_eq_true h24
      refine J.skip ?_
      refine J.seq ?_
      refine J.block ?_
      refine J.seq ?_
      refine J.seq ?_
      obtain ⟨e26, he26⟩ : ∃ x_, (Gr.reachI (gOf l7) (k : Int))[q]? = some x_ := ⟨_, List.getElem?_eq_getElem (by first | omega | (simp only [List.length_append, List.length_cons, List.length_nil, List.length_set]; omega))⟩
      obtain ⟨p, hpe, hpl⟩ := Gr.reach_el (by omega) he26
      subst hpe
      have hrl := Gr.reachI_len (g := (gOf l7)) (n := (k : Int))
      have hwl2 : mb2.length = l7.length := by rw [hw2.len, hgl7]
      refine J.region ?_
      refine O.p (Pu.move rfl) rfl ?_
      refine O.p (Pu.move rfl) rfl ?_
      refine O.q (Qt.idxM Try.runUnderlying24 Try.sizeOf3 rfl (Src.row 0 rfl) rfl (by first | omega | (simp only [List.length_append, List.length_cons, List.length_nil, List.length_set]; omega)) (by first | omega | (simp only [List.length_append, List.length_cons, List.length_nil, List.length_set]; omega))) rfl ?_
      refine O.q (Qt.ld rfl (Cel.eltM (Src.row 0 rfl) he26) (o := (voff v22 + q * 1)) (off := 0) (by omega) (Cut.one Try.isAgg3 rfl)) rfl ?_
      refine O.p (Pu.lss rfl rfl) rfl ?_
      refine O.p (Pu.move rfl) rfl ?_
      refine O.gq (t := 58) rfl rfl (decide_eq_false (by omega)) rfl (Pu.qt (Pu.move rfl)) rfl ?_
      refine O.gq (t := 58) rfl rfl (decide_eq_false (by omega)) rfl (Pu.qt (Pu.move rfl)) rfl ?_
      refine O.gq (t := 58) rfl rfl (decide_eq_false (by omega)) rfl (Qt.idxM Try.runUnderlying24 Try.sizeOf3 rfl (Src.row 0 rfl) rfl (by first | omega | (simp only [List.length_append, List.length_cons, List.length_nil, List.length_set]; omega)) (by first | omega | (simp only [List.length_append, List.length_cons, List.length_nil, List.length_set]; omega))) rfl ?_
      refine O.gq (t := 58) rfl rfl (decide_eq_false (by omega)) rfl (Qt.ld rfl (Cel.eltM (Src.row 0 rfl) he26) (o := (voff v22 + q * 1)) (off := 0) (by omega) (Cut.one Try.isAgg3 rfl)) rfl ?_
      refine O.gq (t := 58) rfl rfl (decide_eq_false (by omega)) rfl (Pu.qt (Pu.move rfl)) rfl ?_
      refine O.gq (t := 58) rfl rfl (decide_eq_false (by omega)) rfl (Qt.lenM Try.runUnderlying70 rfl (Src.row 2 rfl)) rfl ?_
      refine O.gq (t := 58) rfl rfl (decide_eq_false (by omega)) rfl (Pu.qt (Pu.geq rfl rfl)) rfl ?_
      refine O.p (Pu.pickF rfl (decide_eq_false (by omega)) rfl) rfl ?_
      refine O.nil ?_
      refine J.condF rfl (decide_eq_false (by omega)) ?_
      refine J.skip ?_
      refine J.region ?_
      refine O.p (Pu.move rfl) rfl ?_
      refine O.p (Pu.move rfl) rfl ?_
      refine O.p (Pu.move rfl) rfl ?_
      refine O.q (Qt.idxM Try.runUnderlying24 Try.sizeOf3 rfl (Src.row 0 rfl) rfl (by first | omega | (simp only [List.length_append, List.length_cons, List.length_nil, List.length_set]; omega)) (by first | omega | (simp only [List.length_append, List.length_cons, List.length_nil, List.length_set]; omega))) rfl ?_
      refine O.q (Qt.ld rfl (Cel.eltM (Src.row 0 rfl) he26) (o := (voff v22 + q * 1)) (off := 0) (by omega) (Cut.one Try.isAgg3 rfl)) rfl ?_
      obtain ⟨e27, he27⟩ : ∃ x_, mb2[p]? = some x_ := ⟨_, List.getElem?_eq_getElem (by first | omega | (simp only [List.length_append, List.length_cons, List.length_nil, List.length_set]; omega))⟩
      refine O.q (Qt.idxM Try.runUnderlying33 Try.sizeOf4 rfl (Src.row 1 rfl) rfl (by first | omega | (simp only [List.length_append, List.length_cons, List.length_nil, List.length_set]; omega)) (by first | omega | (simp only [List.length_append, List.length_cons, List.length_nil, List.length_set]; omega))) rfl ?_
      refine O.l0 (Lo.storeM 1 (j := p) (off := 0) (vs := [.bool true]) (e := [.bool e27]) true rfl rfl rfl rfl (by omega) he27 rfl (by exact Try.sizeOf4) rfl rfl rfl rfl rfl) ?_
      rintro _ _ rfl
      have hs28 : (mb2.set p true)[p]? = some true := List.getElem?_set_self (List.getElem?_eq_some_iff.1 he27).1
      refine O.nil ?_
      refine J.blk ?_
      refine J.region ?_
      refine O.p (Pu.move rfl) rfl ?_
      refine O.p (Pu.add' rfl rfl (by omega)) rfl ?_
      refine O.p (Pu.assign rfl) rfl ?_
      refine O.nil ?_
      exact J.lp ⟨q + 1, mb2.set p true⟩ (show (q + 1) ≤ (Gr.reachI (gOf l7) (k : Int)).length ∧ Gr.WQ (gOf l7) i k (mb2.set p true) (q + 1) from ⟨by omega, hw2.next he26 hpl⟩) (show (Gr.reachI (gOf l7) (k : Int)).length - (q + 1) < (Gr.reachI (gOf l7) (k : Int)).length - q from (by first | omega | (simp only [List.length_append, List.length_cons, List.length_nil, List.length_set]; omega))) ⟨rfl, rfl, rfl, rfl, rfl, rfl, (congrArg (fun z => some (Value.int .i64 z)) (by first | rfl | omega : ((q : Int) + 1 : Int) = ((q + 1) : Int))), trivial⟩ [0, 1, 2, 3] (by decide) rfl
     ·
      have p29 := of_decide_eq_false h24
      refine J.exit _ rfl ?_
      refine J.blk ?_
      refine J.region ?_
      refine O.p (Pu.move rfl) rfl ?_
      refine O.p (Pu.add' rfl rfl (by omega)) rfl ?_
      refine O.p (Pu.assign rfl) rfl ?_
      refine O.nil ?_
      exact J.lp ⟨k + 1, mb2⟩ (show (k + 1) ≤ l7.length ∧ Gr.WI (gOf l7) i (k + 1) mb2 from ⟨by omega, hw2.done (by rw [← Gr.calls_e]; exact h19) (by omega) (by omega)⟩) (show l7.length - (k + 1) < l7.length - k from (by first | omega | (simp only [List.length_append, List.length_cons, List.length_nil, List.length_set]; omega))) ⟨rfl, rfl, rfl, rfl, (congrArg (fun z => some (Value.int .i64 z)) (by first | rfl | omega : ((k : Int) + 1 : Int) = ((k + 1) : Int))), trivial⟩ [1, 2, 3] (by decide) rfl
   ·
    have p30 := of_decide_eq_false h14
    refine J.exit _ rfl ?_
    refine J.seq ?_
    refine J.region ?_
    refine O.p (Pu.assign rfl) rfl ?_
    refine O.nil ?_
    refine J.seq ?_
    refine J.seq ?_
    refine J.region ?_
    refine O.p (Pu.assign rfl) rfl ?_
    refine O.nil ?_
    refine J.block ?_
    refine J.nilRow 3 1 ?_
    refine J.loop (X := Nat × Value × List Int) (fun ξ => ξ.1 ≤ l7.length ∧ ξ.2.2 = Gr.marked mb ξ.1 ∧ ξ.2.2.length ≤ ξ.1) (fun ξ => [(3, V7), (5, .bool r), (6, .int .i64 (i : Int)), (7, V12), (11, ξ.2.1), (12, .int .i64 (ξ.1 : Int))]) (fun ξ => [row V12 4 1 (mb.map encBo), row V7 104 14 (l7.map Sg.cells), bun (l7.map (Sg.row 106)), row ξ.2.1 3 1 (ξ.2.2.map encZ)]) (fun ξ => l7.length - ξ.1) ⟨0, Value.slice none 0 0, []⟩ (show 0 ≤ l7.length ∧ ([]) = Gr.marked mb 0 ∧ ([]).length ≤ 0 from ⟨by omega, rfl, by simp⟩) ⟨rfl, rfl, rfl, rfl, rfl, (congrArg (fun z => some (Value.int .i64 z)) (by first | rfl | omega : (0 : Int) = (0 : Int))), trivial⟩ [1, 2, 3, 0] (by decide) rfl ?_
    rintro ⟨j, V, rows⟩ hq31
    obtain ⟨hj, hrows, hlen⟩ : j ≤ l7.length ∧ rows = Gr.marked mb j ∧ rows.length ≤ j := hq31
    show J _ _ [(3, V7), (5, .bool r), (6, .int .i64 (i : Int)), (7, V12), (11, V), (12, .int .i64 (j : Int))] [row V12 4 1 (mb.map encBo), row V7 104 14 (l7.map Sg.cells), bun (l7.map (Sg.row 106)), row V 3 1 (rows.map encZ)]
    refine J.seq ?_
    refine J.seq ?_
    refine J.region ?_
    refine O.p (Pu.move rfl) rfl ?_
    refine O.p (Pu.move rfl) rfl ?_
    refine O.q (Qt.lenM Try.runUnderlying70 rfl (Src.row 1 rfl)) rfl ?_
    refine O.p (Pu.lss rfl rfl) rfl ?_
    refine O.nil ?_
    refine J.cond rfl (fun h32 => ?_) (fun h32 => ?_)
    ·
     have p33 := of_decide_eq_true h32
     refine J.skip ?_
     refine J.seq ?_
     refine J.block ?_
     refine J.seq ?_
     have hwl : mb.length = l7.length := by rw [hw.len, hgl7]
     refine J.region ?_
     refine O.p (Pu.move rfl) rfl ?_
     refine O.p (Pu.move rfl) rfl ?_
     obtain ⟨e34, he34⟩ : ∃ x_, mb[j]? = some x_ := ⟨_, List.getElem?_eq_getElem (by first | omega | (simp only [List.length_append, List.length_cons, List.length_nil, List.length_set]; omega))⟩
     refine O.q (Qt.idxM Try.runUnderlying33 Try.sizeOf4 rfl (Src.row 0 rfl) rfl (by first | omega | (simp only [List.length_append, List.length_cons, List.length_nil, List.length_set]; omega)) (by first | omega | (simp only [List.length_append, List.length_cons, List.length_nil, List.length_set]; omega))) rfl ?_
     refine O.q (Qt.ld rfl (Cel.eltM (Src.row 0 rfl) he34) (o := (voff V12 + j * 1)) (off := 0) (by omega) (Cut.one Try.isAgg4 rfl)) rfl ?_
     refine O.nil ?_
     refine J.cond rfl (fun h35 => ?_) (fun h35 => ?_)
     ·
      refine J.region ?_
      refine O.p (Pu.move rfl) rfl ?_
      refine O.p (Pu.move rfl) rfl ?_
      refine O.l (Lo.buildM (s := 1) encZ [(j : Int)] [(0, .int .i64 (j : Int))] (by exact Try.runUnderlying24) (by exact Try.sizeOf3) (by exact Try.zeroValue3) rfl rfl rfl (by kernel_rfl) rfl rfl) rfl ?_
      rintro V36 _ rfl
      refine O.l (Lo.appendM (s := 1) 4 (by exact Try.underlying24) (by exact (info3).1) (by exact (info3).2.1) (by exact (info3).2.2.1) (by exact (info3).2.2.2) rfl rfl rfl rfl rfl (Src.row 0 rfl) encZ.one (by first | omega | (simp only [List.length_append, List.length_cons, List.length_nil, List.length_set]; omega)) (by first | omega | (simp only [List.length_append, List.length_cons, List.length_nil, List.length_set]; omega))) rfl ?_
      rintro V37 _ rfl
      refine O.p (Pu.assign rfl) rfl ?_
      refine O.nil ?_
      refine J.blk ?_
      refine J.region ?_
      refine O.p (Pu.move rfl) rfl ?_
      refine O.p (Pu.add' rfl rfl (by omega)) rfl ?_
      refine O.p (Pu.assign rfl) rfl ?_
      refine O.nil ?_
      exact J.lp ⟨j + 1, V37, rows ++ ([(j : Int)])⟩ (show (j + 1) ≤ l7.length ∧ (rows ++ ([(j : Int)])) = Gr.marked mb (j + 1) ∧ (rows ++ ([(j : Int)])).length ≤ (j + 1) from ⟨by omega, (by rw [hrows]; first | exact (Gr.marked_yes (by rw [he34]; exact congrArg some ‹_›)).symm | exact (Gr.marked_no (by rw [he34]; exact congrArg some ‹_›)).symm), (by first | omega | (simp only [List.length_append, List.length_cons, List.length_nil]; omega))⟩) (show l7.length - (j + 1) < l7.length - j from (by first | omega | (simp only [List.length_append, List.length_cons, List.length_nil, List.length_set]; omega))) ⟨rfl, rfl, rfl, rfl, rfl, (congrArg (fun z => some (Value.int .i64 z)) (by first | rfl | omega : ((j : Int) + 1 : Int) = ((j + 1) : Int))), trivial⟩ [1, 2, 3, 4] (by decide) rfl
     ·
      refine J.skip ?_
      refine J.blk ?_
      refine J.region ?_
      refine O.p (Pu.move rfl) rfl ?_
      refine O.p (Pu.add' rfl rfl (by omega)) rfl ?_
      refine O.p (Pu.assign rfl) rfl ?_
      refine O.nil ?_
      exact J.lp ⟨j + 1, V, rows⟩ (show (j + 1) ≤ l7.length ∧ rows = Gr.marked mb (j + 1) ∧ rows.length ≤ (j + 1) from ⟨by omega, (by rw [hrows]; first | exact (Gr.marked_yes (by rw [he34]; exact congrArg some ‹_›)).symm | exact (Gr.marked_no (by rw [he34]; exact congrArg some ‹_›)).symm), (by first | omega | (simp only [List.length_append, List.length_cons, List.length_nil]; omega))⟩) (show l7.length - (j + 1) < l7.length - j from (by first | omega | (simp only [List.length_append, List.length_cons, List.length_nil, List.length_set]; omega))) ⟨rfl, rfl, rfl, rfl, rfl, (congrArg (fun z => some (Value.int .i64 z)) (by first | rfl | omega : ((j : Int) + 1 : Int) = ((j + 1) : Int))), trivial⟩ [0, 1, 2, 3] (by decide) rfl
    ·
     have p38 := of_decide_eq_false h32
     refine J.exit _ rfl ?_
     refine J.seq ?_
     refine by_bool r (fun h39 => ?_) (fun h39 => ?_)
     ·
      have hwl : mb.length = l7.length := by rw [hw.len, hgl7]
      refine J.region ?_
      refine O.p (Pu.move rfl) rfl ?_
      refine O.p (Pu.move rfl) rfl ?_
      refine O.gskip (t := 88) rfl rfl (no_bool (by rw [h39]; decide)) rfl rfl ?_
      refine O.gskip (t := 88) rfl rfl (no_bool (by rw [h39]; decide)) rfl rfl ?_
      refine O.gskip (t := 88) rfl rfl (no_bool (by rw [h39]; decide)) rfl rfl ?_
      refine O.gskip (t := 88) rfl rfl (no_bool (by rw [h39]; decide)) rfl rfl ?_
      refine O.p (Pu.pickT rfl h39 rfl) rfl ?_
      refine O.p (Pu.assign rfl) rfl ?_
      refine O.nil ?_
      refine J.seq ?_
      refine J.region ?_
      refine O.p (Pu.move rfl) rfl ?_
      refine O.p (Pu.move rfl) rfl ?_
      refine O.l (Lo.call [.int .i64 (i : Int), V7] (by exact Try.call47) rfl (g_Reach V7 l7 (i : Int) hl7 hc7) [] [0, 1, 2, 3] (by decide) rfl [row V12 4 1 (mb.map encBo), row V7 104 14 (l7.map Sg.cells), bun (l7.map (Sg.row 106)), row V 3 1 (rows.map encZ)] rfl (RoOk.of 1 rfl row_rd [] (by decide) rfl (RoOk.of 2 rfl sg_ros [] (by decide) rfl RoOk.nil))) rfl ?_
      rintro v40 _ ⟨_, rfl, rfl⟩
      refine O.p (Pu.move rfl) rfl ?_
      refine O.l (Lo.call [v40, V] (by exact Try.call23) rfl (n01_Same v40 V (Gr.reachI (gOf l7) (i : Int)) rows (by first | omega | decide | exact Nat.le_trans Gr.ordL_len (by omega) | exact Nat.le_trans Gr.reachI_len (by omega) | exact Nat.le_trans Gr.callers_len (by omega) | exact Nat.le_trans Gr.reachL_len (by omega) | exact Nat.le_trans Gr.marked_len (by omega)) (by first | omega | decide | exact Nat.le_trans Gr.ordL_len (by omega) | exact Nat.le_trans Gr.reachI_len (by omega) | exact Nat.le_trans Gr.callers_len (by omega) | exact Nat.le_trans Gr.reachL_len (by omega) | exact Nat.le_trans Gr.marked_len (by omega))) [] [0, 1, 2, 3, 4] (by decide) rfl [row v40 3 1 ((Gr.reachI (gOf l7) (i : Int)).map encZ), row V12 4 1 (mb.map encBo), row V7 104 14 (l7.map Sg.cells), bun (l7.map (Sg.row 106)), row V 3 1 (rows.map encZ)] rfl (RoOk.of 0 rfl row_rd [] (by decide) rfl (RoOk.of 4 rfl row_rd [] (by decide) rfl RoOk.nil))) rfl ?_
      rintro _ _ ⟨_, ⟨rfl, rfl⟩, rfl⟩
      refine O.p (Pu.not rfl) rfl ?_
      refine O.nil ?_
      refine J.condF rfl (not_of_true (decide_eq_true (by rw [hrows, Gr.reachI_nat (by omega)]; exact (Gr.WI.rows hw (by omega) (by omega)).symm))) ?_
      refine J.skip ?_
      refine J.blk ?_
      refine J.region ?_
      refine O.p (Pu.move rfl) rfl ?_
      refine O.p (Pu.add' rfl rfl (by omega)) rfl ?_
      refine O.p (Pu.assign rfl) rfl ?_
      refine O.nil ?_
      exact J.lp ⟨i + 1, true⟩ (show (i + 1) ≤ l7.length ∧ (true = true ↔ ∃ c, c < (i + 1) ∧ Gr.Path (Gr.e (gOf l7)) c c) from ⟨by omega, Gr.round_yes hr h39⟩) (show l7.length - (i + 1) < l7.length - i from (by first | omega | (simp only [List.length_append, List.length_cons, List.length_nil, List.length_set]; omega))) ⟨rfl, rfl, (congrArg (fun z => some (Value.int .i64 z)) (by first | rfl | omega : ((i : Int) + 1 : Int) = ((i + 1) : Int))), trivial⟩ [2, 3] (by decide) rfl
     ·
      have hwl : mb.length = l7.length := by rw [hw.len, hgl7]
      refine J.region ?_
      refine O.p (Pu.move rfl) rfl ?_
      refine O.p (Pu.move rfl) rfl ?_
      refine O.gq (t := 88) rfl rfl h39 rfl (Pu.qt (Pu.move rfl)) rfl ?_
      refine O.gq (t := 88) rfl rfl h39 rfl (Pu.qt (Pu.move rfl)) rfl ?_
      obtain ⟨e42, he42⟩ : ∃ x_, mb[i]? = some x_ := ⟨_, List.getElem?_eq_getElem (by first | omega | (simp only [List.length_append, List.length_cons, List.length_nil, List.length_set]; omega))⟩
      refine O.gq (t := 88) rfl rfl h39 rfl (Qt.idxM Try.runUnderlying33 Try.sizeOf4 rfl (Src.row 0 rfl) rfl (by first | omega | (simp only [List.length_append, List.length_cons, List.length_nil, List.length_set]; omega)) (by first | omega | (simp only [List.length_append, List.length_cons, List.length_nil, List.length_set]; omega))) rfl ?_
      refine O.gq (t := 88) rfl rfl h39 rfl (Qt.ld rfl (Cel.eltM (Src.row 0 rfl) he42) (o := (voff V12 + i * 1)) (off := 0) (by omega) (Cut.one Try.isAgg4 rfl)) rfl ?_
      refine O.p (Pu.pickF rfl h39 rfl) rfl ?_
      refine O.p (Pu.assign rfl) rfl ?_
      refine O.nil ?_
      refine J.seq ?_
      refine J.region ?_
      refine O.p (Pu.move rfl) rfl ?_
      refine O.p (Pu.move rfl) rfl ?_
      refine O.l (Lo.call [.int .i64 (i : Int), V7] (by exact Try.call47) rfl (g_Reach V7 l7 (i : Int) hl7 hc7) [] [0, 1, 2, 3] (by decide) rfl [row V12 4 1 (mb.map encBo), row V7 104 14 (l7.map Sg.cells), bun (l7.map (Sg.row 106)), row V 3 1 (rows.map encZ)] rfl (RoOk.of 1 rfl row_rd [] (by decide) rfl (RoOk.of 2 rfl sg_ros [] (by decide) rfl RoOk.nil))) rfl ?_
      rintro v43 _ ⟨_, rfl, rfl⟩
      refine O.p (Pu.move rfl) rfl ?_
      refine O.l (Lo.call [v43, V] (by exact Try.call23) rfl (n01_Same v43 V (Gr.reachI (gOf l7) (i : Int)) rows (by first | omega | decide | exact Nat.le_trans Gr.ordL_len (by omega) | exact Nat.le_trans Gr.reachI_len (by omega) | exact Nat.le_trans Gr.callers_len (by omega) | exact Nat.le_trans Gr.reachL_len (by omega) | exact Nat.le_trans Gr.marked_len (by omega)) (by first | omega | decide | exact Nat.le_trans Gr.ordL_len (by omega) | exact Nat.le_trans Gr.reachI_len (by omega) | exact Nat.le_trans Gr.callers_len (by omega) | exact Nat.le_trans Gr.reachL_len (by omega) | exact Nat.le_trans Gr.marked_len (by omega))) [] [0, 1, 2, 3, 4] (by decide) rfl [row v43 3 1 ((Gr.reachI (gOf l7) (i : Int)).map encZ), row V12 4 1 (mb.map encBo), row V7 104 14 (l7.map Sg.cells), bun (l7.map (Sg.row 106)), row V 3 1 (rows.map encZ)] rfl (RoOk.of 0 rfl row_rd [] (by decide) rfl (RoOk.of 4 rfl row_rd [] (by decide) rfl RoOk.nil))) rfl ?_
      rintro _ _ ⟨_, ⟨rfl, rfl⟩, rfl⟩
      refine O.p (Pu.not rfl) rfl ?_
      refine O.nil ?_
      refine J.condF rfl (not_of_true (decide_eq_true (by rw [hrows, Gr.reachI_nat (by omega)]; exact (Gr.WI.rows hw (by omega) (by omega)).symm))) ?_
      refine J.skip ?_
      refine J.blk ?_
      refine J.region ?_
      refine O.p (Pu.move rfl) rfl ?_
      refine O.p (Pu.add' rfl rfl (by omega)) rfl ?_
      refine O.p (Pu.assign rfl) rfl ?_
      refine O.nil ?_
      exact J.lp ⟨i + 1, e42⟩ (show (i + 1) ≤ l7.length ∧ (e42 = true ↔ ∃ c, c < (i + 1) ∧ Gr.Path (Gr.e (gOf l7)) c c) from ⟨by omega, Gr.round_next hr hw (by omega) he42 h39⟩) (show l7.length - (i + 1) < l7.length - i from (by first | omega | (simp only [List.length_append, List.length_cons, List.length_nil, List.length_set]; omega))) ⟨rfl, rfl, (congrArg (fun z => some (Value.int .i64 z)) (by first | rfl | omega : ((i : Int) + 1 : Int) = ((i + 1) : Int))), trivial⟩ [2, 3] (by decide) rfl
  ·
   have p45 := of_decide_eq_false h10
   refine J.exit _ rfl ?_
   refine J.seq ?_
   refine J.region ?_
   refine O.p (Pu.move rfl) rfl ?_
   refine O.l (Lo.call [V7] (by exact Try.call43) rfl (g_Check V7 l7 hl7 hc7) [] [0, 1] (by decide) rfl [row V7 104 14 (l7.map Sg.cells), bun (l7.map (Sg.row 106))] rfl (RoOk.of 0 rfl row_rd [] (by decide) rfl (RoOk.of 1 rfl sg_ros [] (by decide) rfl RoOk.nil))) rfl ?_
   rintro _ _ ⟨_, ⟨rfl, rfl⟩, rfl⟩
   refine O.p (Pu.eql rfl rfl) rfl ?_
   refine O.p (Pu.move rfl) rfl ?_
   refine O.p (Pu.beql Try.underlying4 rfl rfl) rfl ?_
   refine O.p (Pu.move rfl) rfl ?_
   refine O.gl (t := 105) rfl rfl (Gr.loops_r hr (by omega)) rfl (Lo.call [] (by exact Try.call39) rfl l29_awake [] [0, 1] (by decide) rfl [row V7 104 14 (l7.map Sg.cells), bun (l7.map (Sg.row 106))] rfl RoOk.nil) rfl ?_
   rintro _ _ ⟨_, ⟨rfl, rfl⟩, rfl⟩
   refine O.p (Pu.pickT rfl (Gr.loops_r hr (by omega)) rfl) rfl ?_
   refine O.p (Pu.assign rfl) rfl ?_
   refine O.nil ?_
   exact J.ret (Fin.ret (rs := [.tmp 2]) rfl [_] ⟨rfl, trivial⟩ [] (by decide) [] rfl ⟨rfl, rfl⟩)

end Go.Proofs.Ytnkhmbbnabejhaa
