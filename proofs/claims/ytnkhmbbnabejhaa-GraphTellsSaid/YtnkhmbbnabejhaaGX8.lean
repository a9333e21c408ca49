/-
  Walks, printed by a program of mine (lk.py): each function meets its contract.
-/
import Derived.KernelRfl
import Derived.Test.YtnkhmbbnabejhaaGX7
namespace Go.Proofs.Ytnkhmbbnabejhaa
open Go Go.LK
set_option linter.unusedSimpArgs false

set_option maxRecDepth 100000 in
set_option maxHeartbeats 2000000 in
theorem law29_graphTells (cv : Value) (cs : List Lz) (n : Int) : Tri Try.prog 8 #[cv, .int .i64 n] [rd cv 1 (cs.map Lz.cells), ros (cs.map Lz.rd)] [] (fun v L' => v = .bool true ∧ L' = []) := by
 refine Tri.enter (args := [cv, .int .i64 n]) (body := _) 118 Try.func8 rfl Try.ntmps8 rfl ?_
 intro w0
 refine J.seq ?_
 refine J.region ?_
 refine O.p (Pu.assign rfl) rfl ?_
 refine O.nil ?_
 refine J.seq ?_
 refine by_bool (decide (8 < cs.length)) (fun h1 => ?_) (fun h1 => ?_)
 ·
  have p2 := of_decide_eq_true h1
  refine J.region ?_
  refine O.p (Pu.move rfl) rfl ?_
  refine O.l (Lo.call [cv] (by exact Try.call38) rfl (l29_ofNo cv cs (of_decide_eq_true h1)) [] [] (by decide) rfl [] rfl (RoOk.ro 0 rfl [] rfl (RoOk.ro 1 rfl [] rfl RoOk.nil))) rfl ?_
  rintro _ _ ⟨_, ⟨rfl, rfl⟩, rfl⟩
  refine O.p (Pu.move rfl) rfl ?_
  refine O.p (Pu.extract rfl rfl) rfl ?_
  refine O.p (Pu.extract rfl rfl) rfl ?_
  refine O.p (Pu.assign rfl) rfl ?_
  refine O.p (Pu.assign rfl) rfl ?_
  refine O.nil ?_
  refine J.seq ?_
  refine J.seq ?_
  refine J.region ?_
  refine O.p (Pu.move rfl) rfl ?_
  refine O.p (Pu.not rfl) rfl ?_
  refine O.nil ?_
  refine J.condT rfl rfl ?_
  refine J.seq ?_
  refine J.region ?_
  refine O.l (Lo.call [] (by exact Try.call39) rfl l29_awake [] [] (by decide) rfl [] rfl RoOk.nil) rfl ?_
  rintro _ _ ⟨_, ⟨rfl, rfl⟩, rfl⟩
  refine O.p (Pu.assign rfl) rfl ?_
  refine O.nil ?_
  exact J.ret (Fin.ret (rs := [.tmp 4]) rfl [_] ⟨rfl, trivial⟩ [] (by decide) [] rfl ⟨rfl, rfl⟩)
 ·
  have p6 := of_decide_eq_false h1
  refine J.region ?_
  refine O.p (Pu.move rfl) rfl ?_
  refine O.l (Lo.call [cv] (by exact Try.call38) rfl (l29_of cv cs (of_decide_eq_false h1)) [] [] (by decide) rfl [] rfl (RoOk.ro 0 rfl [] rfl (RoOk.ro 1 rfl [] rfl RoOk.nil))) rfl ?_
  rintro _ _ ⟨_, ⟨V7, l7, hg7, rfl, rfl⟩, rfl⟩
  obtain ⟨hk7, hc7⟩ := Gr.of_small hg7 (of_decide_eq_false h1)
  have hl7 : l7.length ≤ 1000 := by omega
  have hgl7 := gOf_len (l := l7)
  refine O.p (Pu.move rfl) rfl ?_
  refine O.p (Pu.extract rfl rfl) rfl ?_
  refine O.p (Pu.extract rfl rfl) rfl ?_
  refine O.p (Pu.assign rfl) rfl ?_
  refine O.p (Pu.assign rfl) rfl ?_
  refine O.nil ?_
  refine J.seq ?_
  refine J.seq ?_
  refine J.region ?_
  refine O.p (Pu.move rfl) rfl ?_
  refine O.p (Pu.not rfl) rfl ?_
  refine O.nil ?_
  refine J.condF rfl rfl ?_
  refine J.skip ?_
  refine J.seq ?_
  refine J.region ?_
  refine O.p (Pu.move rfl) rfl ?_
  refine O.l (Lo.call [V7] (by exact Try.call40) rfl (g_Order V7 l7 hl7 hc7) [] [0, 1] (by decide) rfl [row V7 104 14 (l7.map Sg.cells), bun (l7.map (Sg.row 106))] rfl (RoOk.of 0 rfl row_rd [] (by decide) rfl (RoOk.of 1 rfl sg_ros [] (by decide) rfl RoOk.nil))) rfl ?_
  rintro _ _ ⟨_, ⟨V9, rfl, rfl⟩, rfl⟩
  refine O.p (Pu.move rfl) rfl ?_
  refine O.p (Pu.extract rfl rfl) rfl ?_
  refine O.p (Pu.extract rfl rfl) rfl ?_
  refine O.p (Pu.assign rfl) rfl ?_
  refine O.p (Pu.assign rfl) rfl ?_
  refine O.nil ?_
  refine J.seq ?_
  refine J.region ?_
  refine O.p (Pu.move rfl) rfl ?_
  refine O.l (Lo.call [V7] (by exact Try.call41) rfl (r29_Order V7 l7 hl7 hc7) [] [0, 1, 2] (by decide) rfl [row V9 3 1 ((Gr.ordL (gOf l7)).map encZ), row V7 104 14 (l7.map Sg.cells), bun (l7.map (Sg.row 106))] rfl (RoOk.of 1 rfl row_rd [] (by decide) rfl (RoOk.of 2 rfl sg_ros [] (by decide) rfl RoOk.nil))) rfl ?_
  rintro _ _ ⟨_, ⟨V11, rfl, rfl⟩, rfl⟩
  refine O.p (Pu.move rfl) rfl ?_
  refine O.p (Pu.extract rfl rfl) rfl ?_
  refine O.p (Pu.extract rfl rfl) rfl ?_
  refine O.p (Pu.assign rfl) rfl ?_
  refine O.p (Pu.assign rfl) rfl ?_
  refine O.nil ?_
  refine J.seq ?_
  refine J.region ?_
  refine O.p (Pu.move rfl) rfl ?_
  refine O.p (Pu.move rfl) rfl ?_
  refine O.l (Lo.call [.int .i64 n, V7] (by exact Try.call42) rfl (g_Depth V7 l7 n hl7 hc7) [] [0, 1, 2, 3] (by decide) rfl [row V11 3 1 ((Gr.ordL (gOf l7)).map encZ), row V9 3 1 ((Gr.ordL (gOf l7)).map encZ), row V7 104 14 (l7.map Sg.cells), bun (l7.map (Sg.row 106))] rfl (RoOk.of 2 rfl row_rd [] (by decide) rfl (RoOk.of 3 rfl sg_ros [] (by decide) rfl RoOk.nil))) rfl ?_
  rintro _ _ ⟨_, ⟨rfl, rfl⟩, rfl⟩
  refine O.p (Pu.move rfl) rfl ?_
  refine O.p (Pu.extract rfl rfl) rfl ?_
  refine O.p (Pu.extract rfl rfl) rfl ?_
  refine O.p (Pu.assign rfl) rfl ?_
  refine O.p (Pu.assign rfl) rfl ?_
  refine O.nil ?_
  refine J.seq ?_
  refine J.seq ?_
  refine J.region ?_
  refine O.p (Pu.move rfl) rfl ?_
  refine O.l (Lo.call [V7] (by exact Try.call43) rfl (g_Check V7 l7 hl7 hc7) [] [0, 1, 2, 3] (by decide) rfl [row V11 3 1 ((Gr.ordL (gOf l7)).map encZ), row V9 3 1 ((Gr.ordL (gOf l7)).map encZ), row V7 104 14 (l7.map Sg.cells), bun (l7.map (Sg.row 106))] rfl (RoOk.of 2 rfl row_rd [] (by decide) rfl (RoOk.of 3 rfl sg_ros [] (by decide) rfl RoOk.nil))) rfl ?_
  rintro _ _ ⟨_, ⟨rfl, rfl⟩, rfl⟩
  refine O.p (Pu.move rfl) rfl ?_
  refine O.l (Lo.call [V7] (by exact Try.call44) rfl (r29_Check V7 l7 hl7 hc7) [] [0, 1, 2, 3] (by decide) rfl [row V11 3 1 ((Gr.ordL (gOf l7)).map encZ), row V9 3 1 ((Gr.ordL (gOf l7)).map encZ), row V7 104 14 (l7.map Sg.cells), bun (l7.map (Sg.row 106))] rfl (RoOk.of 2 rfl row_rd [] (by decide) rfl (RoOk.of 3 rfl sg_ros [] (by decide) rfl RoOk.nil))) rfl ?_
  rintro _ _ ⟨_, ⟨rfl, rfl⟩, rfl⟩
  refine O.p (Pu.neq rfl rfl) rfl ?_
  refine O.p (Pu.move rfl) rfl ?_
  refine O.gq (t := 42) rfl rfl (by simp) rfl (Pu.qt (Pu.move rfl)) rfl ?_
  refine O.gq (t := 42) rfl rfl (by simp) rfl (Pu.qt (Pu.move rfl)) rfl ?_
  refine O.gl (t := 42) rfl rfl (by simp) rfl (Lo.call [V9, V11] (by exact Try.call23) rfl (n01_Same V9 V11 (Gr.ordL (gOf l7)) (Gr.ordL (gOf l7)) (by first | omega | decide | exact Nat.le_trans Gr.ordL_len (by omega) | exact Nat.le_trans Gr.reachI_len (by omega) | exact Nat.le_trans Gr.callers_len (by omega) | exact Nat.le_trans Gr.reachL_len (by omega) | exact Nat.le_trans Gr.marked_len (by omega)) (by first | omega | decide | exact Nat.le_trans Gr.ordL_len (by omega) | exact Nat.le_trans Gr.reachI_len (by omega) | exact Nat.le_trans Gr.callers_len (by omega) | exact Nat.le_trans Gr.reachL_len (by omega) | exact Nat.le_trans Gr.marked_len (by omega))) [] [0, 1, 2, 3] (by decide) rfl [row V11 3 1 ((Gr.ordL (gOf l7)).map encZ), row V9 3 1 ((Gr.ordL (gOf l7)).map encZ), row V7 104 14 (l7.map Sg.cells), bun (l7.map (Sg.row 106))] rfl (RoOk.of 1 rfl row_rd [] (by decide) rfl (RoOk.of 0 rfl row_rd [] (by decide) rfl RoOk.nil))) rfl ?_
  rintro _ _ ⟨_, ⟨rfl, rfl⟩, rfl⟩
  refine O.gq (t := 42) rfl rfl (by simp) rfl (Pu.qt (Pu.not rfl)) rfl ?_
  refine O.p (Pu.pickF rfl (by simp) rfl) rfl ?_
  refine O.p (Pu.move rfl) rfl ?_
  refine O.gq (t := 48) rfl rfl (not_of_true (by simp)) rfl (Pu.qt (Pu.move rfl)) rfl ?_
  refine O.gq (t := 48) rfl rfl (not_of_true (by simp)) rfl (Pu.qt (Pu.move rfl)) rfl ?_
  refine O.gq (t := 48) rfl rfl (not_of_true (by simp)) rfl (Pu.qt (Pu.neq rfl rfl)) rfl ?_
  refine O.p (Pu.pickF rfl (not_of_true (by simp)) rfl) rfl ?_
  refine O.p (Pu.move rfl) rfl ?_
  refine O.gq (t := 53) rfl rfl (by simp) rfl (Pu.qt (Pu.move rfl)) rfl ?_
  refine O.gq (t := 53) rfl rfl (by simp) rfl (Pu.qt (Pu.move rfl)) rfl ?_
  refine O.gl (t := 53) rfl rfl (by simp) rfl (Lo.call [.int .i64 n, V7] (by exact Try.call45) rfl (g_Callers V7 l7 n hl7 hc7) [] [0, 1, 2, 3] (by decide) rfl [row V11 3 1 ((Gr.ordL (gOf l7)).map encZ), row V9 3 1 ((Gr.ordL (gOf l7)).map encZ), row V7 104 14 (l7.map Sg.cells), bun (l7.map (Sg.row 106))] rfl (RoOk.of 2 rfl row_rd [] (by decide) rfl (RoOk.of 3 rfl sg_ros [] (by decide) rfl RoOk.nil))) rfl ?_
  rintro v17 _ ⟨_, rfl, rfl⟩
  refine O.gq (t := 53) rfl rfl (by simp) rfl (Pu.qt (Pu.move rfl)) rfl ?_
  refine O.gq (t := 53) rfl rfl (by simp) rfl (Pu.qt (Pu.move rfl)) rfl ?_
  refine O.gl (t := 53) rfl rfl (by simp) rfl (Lo.call [V7, .int .i64 n] (by exact Try.call46) rfl (r29_Callers V7 l7 n hl7 hc7) [] [0, 1, 2, 3, 4] (by decide) rfl [row v17 3 1 ((Gr.callers (gOf l7) n).map encZ), row V11 3 1 ((Gr.ordL (gOf l7)).map encZ), row V9 3 1 ((Gr.ordL (gOf l7)).map encZ), row V7 104 14 (l7.map Sg.cells), bun (l7.map (Sg.row 106))] rfl (RoOk.of 3 rfl row_rd [] (by decide) rfl (RoOk.of 4 rfl sg_ros [] (by decide) rfl RoOk.nil))) rfl ?_
  rintro v18 _ ⟨_, rfl, rfl⟩
  refine O.gl (t := 53) rfl rfl (by simp) rfl (Lo.call [v17, v18] (by exact Try.call23) rfl (n01_Same v17 v18 (Gr.callers (gOf l7) n) (Gr.callers (gOf l7) n) (by first | omega | decide | exact Nat.le_trans Gr.ordL_len (by omega) | exact Nat.le_trans Gr.reachI_len (by omega) | exact Nat.le_trans Gr.callers_len (by omega) | exact Nat.le_trans Gr.reachL_len (by omega) | exact Nat.le_trans Gr.marked_len (by omega)) (by first | omega | decide | exact Nat.le_trans Gr.ordL_len (by omega) | exact Nat.le_trans Gr.reachI_len (by omega) | exact Nat.le_trans Gr.callers_len (by omega) | exact Nat.le_trans Gr.reachL_len (by omega) | exact Nat.le_trans Gr.marked_len (by omega))) [] [0, 1, 2, 3, 4, 5] (by decide) rfl [row v18 3 1 ((Gr.callers (gOf l7) n).map encZ), row v17 3 1 ((Gr.callers (gOf l7) n).map encZ), row V11 3 1 ((Gr.ordL (gOf l7)).map encZ), row V9 3 1 ((Gr.ordL (gOf l7)).map encZ), row V7 104 14 (l7.map Sg.cells), bun (l7.map (Sg.row 106))] rfl (RoOk.of 1 rfl row_rd [] (by decide) rfl (RoOk.of 0 rfl row_rd [] (by decide) rfl RoOk.nil))) rfl ?_
  rintro _ _ ⟨_, ⟨rfl, rfl⟩, rfl⟩
  refine O.gq (t := 53) rfl rfl (by simp) rfl (Pu.qt (Pu.not rfl)) rfl ?_
  refine O.p (Pu.pickF rfl (by simp) rfl) rfl ?_
  refine O.nil ?_
  refine J.condF rfl (not_of_true (by simp)) ?_
  refine J.skip ?_
  refine J.seq ?_
  refine J.seq ?_
  refine J.region ?_
  refine O.p (Pu.move rfl) rfl ?_
  refine O.p (Pu.lss rfl rfl) rfl ?_
  refine O.p (Pu.move rfl) rfl ?_
  refine by_bool (decide (n < 0)) (fun h20 => ?_) (fun h20 => ?_)
  ·
   have p21 := of_decide_eq_true h20
   refine O.gskip (t := 65) rfl rfl (no_bool (by rw [h20]; decide)) rfl rfl ?_
   refine O.gskip (t := 65) rfl rfl (no_bool (by rw [h20]; decide)) rfl rfl ?_
   refine O.gskip (t := 65) rfl rfl (no_bool (by rw [h20]; decide)) rfl rfl ?_
   refine O.gskip (t := 65) rfl rfl (no_bool (by rw [h20]; decide)) rfl rfl ?_
   refine O.p (Pu.pickT rfl h20 rfl) rfl ?_
   refine O.nil ?_
   refine J.condT rfl rfl ?_
   refine J.seq ?_
   refine J.region ?_
   refine O.p (Pu.move rfl) rfl ?_
   refine O.p (Pu.eql rfl rfl) rfl ?_
   refine O.p (Pu.move rfl) rfl ?_
   refine O.gq (t := 73) rfl rfl (decide_eq_true (by rw [Gr.depI_out (by omega)])) rfl (Pu.qt (Pu.move rfl)) rfl ?_
   refine O.gq (t := 73) rfl rfl (decide_eq_true (by rw [Gr.depI_out (by omega)])) rfl (Pu.qt (Pu.eql rfl rfl)) rfl ?_
   refine O.p (Pu.pickT rfl (decide_eq_true (by rw [Gr.depI_out (by omega)])) rfl) rfl ?_
   refine O.p (Pu.move rfl) rfl ?_
   refine O.gq (t := 77) rfl rfl (decide_eq_true (by rw [Gr.depI_out (by omega)])) rfl (Pu.qt (Pu.move rfl)) rfl ?_
   refine O.gq (t := 77) rfl rfl (decide_eq_true (by rw [Gr.depI_out (by omega)])) rfl (Pu.qt (Pu.move rfl)) rfl ?_
   refine O.gl (t := 77) rfl rfl (decide_eq_true (by rw [Gr.depI_out (by omega)])) rfl (Lo.call [.int .i64 n, V7] (by exact Try.call47) rfl (g_Reach V7 l7 n hl7 hc7) [] [0, 1, 2, 3, 4, 5] (by decide) rfl [row v18 3 1 ((Gr.callers (gOf l7) n).map encZ), row v17 3 1 ((Gr.callers (gOf l7) n).map encZ), row V11 3 1 ((Gr.ordL (gOf l7)).map encZ), row V9 3 1 ((Gr.ordL (gOf l7)).map encZ), row V7 104 14 (l7.map Sg.cells), bun (l7.map (Sg.row 106))] rfl (RoOk.of 4 rfl row_rd [] (by decide) rfl (RoOk.of 5 rfl sg_ros [] (by decide) rfl RoOk.nil))) rfl ?_
   rintro v22 _ ⟨_, rfl, rfl⟩
   refine O.gq (t := 77) rfl rfl (decide_eq_true (by rw [Gr.depI_out (by omega)])) rfl (Qt.lenM Try.runUnderlying24 rfl (Src.row 0 rfl)) rfl ?_
   refine O.gq (t := 77) rfl rfl (decide_eq_true (by rw [Gr.depI_out (by omega)])) rfl (Pu.qt (Pu.eql rfl rfl)) rfl ?_
   refine O.p (Pu.pickT rfl (decide_eq_true (by rw [Gr.depI_out (by omega)])) rfl) rfl ?_
   refine O.p (Pu.move rfl) rfl ?_
   refine O.gl (t := 84) rfl rfl (decide_eq_true (by rw [Gr.reachI_out (by omega)]; rfl)) rfl (Lo.call [] (by exact Try.call39) rfl l29_awake [] [0, 1, 2, 3, 4, 5, 6] (by decide) rfl [row v22 3 1 ((Gr.reachI (gOf l7) n).map encZ), row v18 3 1 ((Gr.callers (gOf l7) n).map encZ), row v17 3 1 ((Gr.callers (gOf l7) n).map encZ), row V11 3 1 ((Gr.ordL (gOf l7)).map encZ), row V9 3 1 ((Gr.ordL (gOf l7)).map encZ), row V7 104 14 (l7.map Sg.cells), bun (l7.map (Sg.row 106))] rfl RoOk.nil) rfl ?_
   rintro _ _ ⟨_, ⟨rfl, rfl⟩, rfl⟩
   refine O.p (Pu.pickT rfl (decide_eq_true (by rw [Gr.reachI_out (by omega)]; rfl)) rfl) rfl ?_
   refine O.p (Pu.assign rfl) rfl ?_
   refine O.nil ?_
   exact J.ret (Fin.ret (rs := [.tmp 4]) rfl [_] ⟨rfl, trivial⟩ [] (by decide) [] rfl ⟨rfl, rfl⟩)
  ·
   have p24 := of_decide_eq_false h20
   refine O.gq (t := 65) rfl rfl h20 rfl (Pu.qt (Pu.move rfl)) rfl ?_
   refine O.gq (t := 65) rfl rfl h20 rfl (Pu.qt (Pu.move rfl)) rfl ?_
   refine O.gq (t := 65) rfl rfl h20 rfl (Qt.lenM Try.runUnderlying70 rfl (Src.row 4 rfl)) rfl ?_
   refine O.gq (t := 65) rfl rfl h20 rfl (Pu.qt (Pu.geq rfl rfl)) rfl ?_
   refine O.p (Pu.pickF rfl h20 rfl) rfl ?_
   refine O.nil ?_
   refine J.cond rfl (fun h25 => ?_) (fun h25 => ?_)
   ·
    have p26 := of_decide_eq_true h25
    refine J.seq ?_
    refine J.region ?_
    refine O.p (Pu.move rfl) rfl ?_
    refine O.p (Pu.eql rfl rfl) rfl ?_
    refine O.p (Pu.move rfl) rfl ?_
    refine O.gq (t := 73) rfl rfl (decide_eq_true (by rw [Gr.depI_out (by omega)])) rfl (Pu.qt (Pu.move rfl)) rfl ?_
    refine O.gq (t := 73) rfl rfl (decide_eq_true (by rw [Gr.depI_out (by omega)])) rfl (Pu.qt (Pu.eql rfl rfl)) rfl ?_
    refine O.p (Pu.pickT rfl (decide_eq_true (by rw [Gr.depI_out (by omega)])) rfl) rfl ?_
    refine O.p (Pu.move rfl) rfl ?_
    refine O.gq (t := 77) rfl rfl (decide_eq_true (by rw [Gr.depI_out (by omega)])) rfl (Pu.qt (Pu.move rfl)) rfl ?_
    refine O.gq (t := 77) rfl rfl (decide_eq_true (by rw [Gr.depI_out (by omega)])) rfl (Pu.qt (Pu.move rfl)) rfl ?_
    refine O.gl (t := 77) rfl rfl (decide_eq_true (by rw [Gr.depI_out (by omega)])) rfl (Lo.call [.int .i64 n, V7] (by exact Try.call47) rfl (g_Reach V7 l7 n hl7 hc7) [] [0, 1, 2, 3, 4, 5] (by decide) rfl [row v18 3 1 ((Gr.callers (gOf l7) n).map encZ), row v17 3 1 ((Gr.callers (gOf l7) n).map encZ), row V11 3 1 ((Gr.ordL (gOf l7)).map encZ), row V9 3 1 ((Gr.ordL (gOf l7)).map encZ), row V7 104 14 (l7.map Sg.cells), bun (l7.map (Sg.row 106))] rfl (RoOk.of 4 rfl row_rd [] (by decide) rfl (RoOk.of 5 rfl sg_ros [] (by decide) rfl RoOk.nil))) rfl ?_
    rintro v27 _ ⟨_, rfl, rfl⟩
    refine O.gq (t := 77) rfl rfl (decide_eq_true (by rw [Gr.depI_out (by omega)])) rfl (Qt.lenM Try.runUnderlying24 rfl (Src.row 0 rfl)) rfl ?_
    refine O.gq (t := 77) rfl rfl (decide_eq_true (by rw [Gr.depI_out (by omega)])) rfl (Pu.qt (Pu.eql rfl rfl)) rfl ?_
    refine O.p (Pu.pickT rfl (decide_eq_true (by rw [Gr.depI_out (by omega)])) rfl) rfl ?_
    refine O.p (Pu.move rfl) rfl ?_
    refine O.gl (t := 84) rfl rfl (decide_eq_true (by rw [Gr.reachI_out (by omega)]; rfl)) rfl (Lo.call [] (by exact Try.call39) rfl l29_awake [] [0, 1, 2, 3, 4, 5, 6] (by decide) rfl [row v27 3 1 ((Gr.reachI (gOf l7) n).map encZ), row v18 3 1 ((Gr.callers (gOf l7) n).map encZ), row v17 3 1 ((Gr.callers (gOf l7) n).map encZ), row V11 3 1 ((Gr.ordL (gOf l7)).map encZ), row V9 3 1 ((Gr.ordL (gOf l7)).map encZ), row V7 104 14 (l7.map Sg.cells), bun (l7.map (Sg.row 106))] rfl RoOk.nil) rfl ?_
    rintro _ _ ⟨_, ⟨rfl, rfl⟩, rfl⟩
    refine O.p (Pu.pickT rfl (decide_eq_true (by rw [Gr.reachI_out (by omega)]; rfl)) rfl) rfl ?_
    refine O.p (Pu.assign rfl) rfl ?_
    refine O.nil ?_
    exact J.ret (Fin.ret (rs := [.tmp 4]) rfl [_] ⟨rfl, trivial⟩ [] (by decide) [] rfl ⟨rfl, rfl⟩)
   ·
    have p29 := of_decide_eq_false h25
    refine J.skip ?_
    refine J.seq ?_
    refine J.seq ?_
    obtain ⟨p, rfl⟩ : ∃ p : Nat, n = (p : Int) := ⟨n.toNat, by omega⟩
    refine J.region ?_
    refine O.p (Pu.move rfl) rfl ?_
    refine O.p (Pu.move rfl) rfl ?_
    refine O.l (Lo.call [.int .i64 (p : Int), V7] (by exact Try.call47) rfl (g_Reach V7 l7 (p : Int) hl7 hc7) [] [0, 1, 2, 3, 4, 5] (by decide) rfl [row v18 3 1 ((Gr.callers (gOf l7) (p : Int)).map encZ), row v17 3 1 ((Gr.callers (gOf l7) (p : Int)).map encZ), row V11 3 1 ((Gr.ordL (gOf l7)).map encZ), row V9 3 1 ((Gr.ordL (gOf l7)).map encZ), row V7 104 14 (l7.map Sg.cells), bun (l7.map (Sg.row 106))] rfl (RoOk.of 4 rfl row_rd [] (by decide) rfl (RoOk.of 5 rfl sg_ros [] (by decide) rfl RoOk.nil))) rfl ?_
    rintro v30 _ ⟨_, rfl, rfl⟩
    refine O.p (Pu.move rfl) rfl ?_
    refine O.p (Pu.move rfl) rfl ?_
    refine O.l (Lo.call [V7, .int .i64 (p : Int)] (by exact Try.call48) rfl (r29_Reach V7 l7 p hl7 hc7) [] [0, 1, 2, 3, 4, 5, 6] (by decide) rfl [row v30 3 1 ((Gr.reachI (gOf l7) (p : Int)).map encZ), row v18 3 1 ((Gr.callers (gOf l7) (p : Int)).map encZ), row v17 3 1 ((Gr.callers (gOf l7) (p : Int)).map encZ), row V11 3 1 ((Gr.ordL (gOf l7)).map encZ), row V9 3 1 ((Gr.ordL (gOf l7)).map encZ), row V7 104 14 (l7.map Sg.cells), bun (l7.map (Sg.row 106))] rfl (RoOk.of 5 rfl row_rd [] (by decide) rfl (RoOk.of 6 rfl sg_ros [] (by decide) rfl RoOk.nil))) rfl ?_
    rintro v31 _ ⟨_, rfl, rfl⟩
    refine O.l (Lo.call [v30, v31] (by exact Try.call23) rfl (n01_Same v30 v31 (Gr.reachI (gOf l7) (p : Int)) (Gr.reachL (gOf l7) p) (by first | omega | decide | exact Nat.le_trans Gr.ordL_len (by omega) | exact Nat.le_trans Gr.reachI_len (by omega) | exact Nat.le_trans Gr.callers_len (by omega) | exact Nat.le_trans Gr.reachL_len (by omega) | exact Nat.le_trans Gr.marked_len (by omega)) (by first | omega | decide | exact Nat.le_trans Gr.ordL_len (by omega) | exact Nat.le_trans Gr.reachI_len (by omega) | exact Nat.le_trans Gr.callers_len (by omega) | exact Nat.le_trans Gr.reachL_len (by omega) | exact Nat.le_trans Gr.marked_len (by omega))) [] [0, 1, 2, 3, 4, 5, 6, 7] (by decide) rfl [row v31 3 1 ((Gr.reachL (gOf l7) p).map encZ), row v30 3 1 ((Gr.reachI (gOf l7) (p : Int)).map encZ), row v18 3 1 ((Gr.callers (gOf l7) (p : Int)).map encZ), row v17 3 1 ((Gr.callers (gOf l7) (p : Int)).map encZ), row V11 3 1 ((Gr.ordL (gOf l7)).map encZ), row V9 3 1 ((Gr.ordL (gOf l7)).map encZ), row V7 104 14 (l7.map Sg.cells), bun (l7.map (Sg.row 106))] rfl (RoOk.of 1 rfl row_rd [] (by decide) rfl (RoOk.of 0 rfl row_rd [] (by decide) rfl RoOk.nil))) rfl ?_
    rintro _ _ ⟨_, ⟨rfl, rfl⟩, rfl⟩
    refine O.p (Pu.not rfl) rfl ?_
    refine O.nil ?_
    refine J.condF rfl (not_of_true (decide_eq_true (by exact Gr.reachI_nat (by omega)))) ?_
    refine J.skip ?_
    refine J.seq ?_
    refine J.seq ?_
    refine J.region ?_
    refine O.p (Pu.move rfl) rfl ?_
    refine O.p (Pu.neq rfl rfl) rfl ?_
    refine O.nil ?_
    refine J.cond rfl (fun h33 => ?_) (fun h33 => ?_)
    ·
     have p34 := of_decide_eq_true h33
     refine J.seq ?_
     refine J.region ?_
     refine O.p (Pu.move rfl) rfl ?_
     refine O.p (Pu.eql rfl rfl) rfl ?_
     refine O.p (Pu.move rfl) rfl ?_
     refine O.gq (t := 99) rfl rfl (decide_eq_true (by rw [Gr.depI_loops (by omega) ‹_›])) rfl (Pu.qt (Pu.move rfl)) rfl ?_
     refine O.gq (t := 99) rfl rfl (decide_eq_true (by rw [Gr.depI_loops (by omega) ‹_›])) rfl (Pu.qt (Pu.eql rfl rfl)) rfl ?_
     refine O.p (Pu.pickT rfl (decide_eq_true (by rw [Gr.depI_loops (by omega) ‹_›])) rfl) rfl ?_
     refine O.p (Pu.move rfl) rfl ?_
     refine O.gl (t := 103) rfl rfl (decide_eq_true (by rw [Gr.depI_loops (by omega) ‹_›]; exact Gr.loops_11 ‹_›)) rfl (Lo.call [] (by exact Try.call39) rfl l29_awake [] [0, 1, 2, 3, 4, 5, 6, 7] (by decide) rfl [row v31 3 1 ((Gr.reachL (gOf l7) p).map encZ), row v30 3 1 ((Gr.reachI (gOf l7) (p : Int)).map encZ), row v18 3 1 ((Gr.callers (gOf l7) (p : Int)).map encZ), row v17 3 1 ((Gr.callers (gOf l7) (p : Int)).map encZ), row V11 3 1 ((Gr.ordL (gOf l7)).map encZ), row V9 3 1 ((Gr.ordL (gOf l7)).map encZ), row V7 104 14 (l7.map Sg.cells), bun (l7.map (Sg.row 106))] rfl RoOk.nil) rfl ?_
     rintro _ _ ⟨_, ⟨rfl, rfl⟩, rfl⟩
     refine O.p (Pu.pickT rfl (decide_eq_true (by rw [Gr.depI_loops (by omega) ‹_›]; exact Gr.loops_11 ‹_›)) rfl) rfl ?_
     refine O.p (Pu.assign rfl) rfl ?_
     refine O.nil ?_
     exact J.ret (Fin.ret (rs := [.tmp 4]) rfl [_] ⟨rfl, trivial⟩ [] (by decide) [] rfl ⟨rfl, rfl⟩)
    ·
     have p36 := of_decide_eq_false h33
     refine J.skip ?_
     refine J.seq ?_
     refine J.region ?_
     refine O.p (Pu.move rfl) rfl ?_
     refine O.p (Pu.move rfl) rfl ?_
     refine O.p (Pu.move rfl) rfl ?_
     refine O.l (Lo.call [V7, .int .i64 (p : Int)] (by exact Try.call49) rfl (r29_Depth V7 l7 (Gr.dsc (gOf l7) p + 1) p hl7 hc7 (Gr.acyc ‹_›) (Nat.lt_succ_self _)) [] [0, 1, 2, 3, 4, 5, 6, 7] (by decide) rfl [row v31 3 1 ((Gr.reachL (gOf l7) p).map encZ), row v30 3 1 ((Gr.reachI (gOf l7) (p : Int)).map encZ), row v18 3 1 ((Gr.callers (gOf l7) (p : Int)).map encZ), row v17 3 1 ((Gr.callers (gOf l7) (p : Int)).map encZ), row V11 3 1 ((Gr.ordL (gOf l7)).map encZ), row V9 3 1 ((Gr.ordL (gOf l7)).map encZ), row V7 104 14 (l7.map Sg.cells), bun (l7.map (Sg.row 106))] rfl (RoOk.of 6 rfl row_rd [] (by decide) rfl (RoOk.of 7 rfl sg_ros [] (by decide) rfl RoOk.nil))) rfl ?_
     rintro _ _ ⟨_, ⟨rfl, rfl⟩, rfl⟩
     refine O.p (Pu.eql rfl rfl) rfl ?_
     refine O.p (Pu.move rfl) rfl ?_
     refine O.gq (t := 111) rfl rfl (decide_eq_true (by rw [Gr.depI_nat ‹_› (by omega)])) rfl (Pu.qt (Pu.move rfl)) rfl ?_
     refine O.gq (t := 111) rfl rfl (decide_eq_true (by rw [Gr.depI_nat ‹_› (by omega)])) rfl (Pu.qt (Pu.eql rfl rfl)) rfl ?_
     refine O.p (Pu.pickT rfl (decide_eq_true (by rw [Gr.depI_nat ‹_› (by omega)])) rfl) rfl ?_
     refine O.p (Pu.move rfl) rfl ?_
     refine O.gl (t := 115) rfl rfl (decide_eq_true (by rw [Gr.depI_nat ‹_› (by omega)])) rfl (Lo.call [] (by exact Try.call39) rfl l29_awake [] [0, 1, 2, 3, 4, 5, 6, 7] (by decide) rfl [row v31 3 1 ((Gr.reachL (gOf l7) p).map encZ), row v30 3 1 ((Gr.reachI (gOf l7) (p : Int)).map encZ), row v18 3 1 ((Gr.callers (gOf l7) (p : Int)).map encZ), row v17 3 1 ((Gr.callers (gOf l7) (p : Int)).map encZ), row V11 3 1 ((Gr.ordL (gOf l7)).map encZ), row V9 3 1 ((Gr.ordL (gOf l7)).map encZ), row V7 104 14 (l7.map Sg.cells), bun (l7.map (Sg.row 106))] rfl RoOk.nil) rfl ?_
     rintro _ _ ⟨_, ⟨rfl, rfl⟩, rfl⟩
     refine O.p (Pu.pickT rfl (decide_eq_true (by rw [Gr.depI_nat ‹_› (by omega)])) rfl) rfl ?_
     refine O.p (Pu.assign rfl) rfl ?_
     refine O.nil ?_
     exact J.ret (Fin.ret (rs := [.tmp 4]) rfl [_] ⟨rfl, trivial⟩ [] (by decide) [] rfl ⟨rfl, rfl⟩)

end Go.Proofs.Ytnkhmbbnabejhaa
