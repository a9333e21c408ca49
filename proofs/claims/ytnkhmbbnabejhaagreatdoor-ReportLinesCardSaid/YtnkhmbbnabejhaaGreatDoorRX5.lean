/-
  Walks, printed by a program of mine (lk.py): each function meets its contract.
-/
import Derived.KernelRfl
import Derived.Test.YtnkhmbbnabejhaaGreatDoorRX3
import Derived.Test.YtnkhmbbnabejhaaGreatDoorRX4
import Derived.Test.YtnkhmbbnabejhaaGreatDoorDX1
namespace Go.Proofs.YtnkhmbbnabejhaaGreatDoor
open Go Go.LK
set_option linter.unusedSimpArgs false

theorem rp_Of_eq (lv : Value) (l : List Ev) (hl : l.length ≤ 80000) (r : Rep) (n c : Int) (h : Rp.of 0 l = (r, n, c)) : Tri Tryz.prog 19 #[.int .i64 0, lv] [rd lv 7 (l.map Ev.cells)] [] (fun v L' => v = .tuple #[.agg (Rep.cells r).toArray, .int .i64 n, .int .i64 c] ∧ L' = []) := by
  have := rp_Of 0 lv l hl
  rw [h] at this
  exact this
theorem rp_Parse_eq (line : Wd.Bs) (hs : line.length ≤ 100000) (r : Rep) (c : Int) (h : Rp.parse line = (r, c)) : Tri Tryz.prog 6 #[str line] [libW] [] (fun v L' => v = .tuple #[.agg (Rep.cells r).toArray, .int .i64 c] ∧ L' = []) := by
  have := rp_Parse line hs
  rw [h] at this
  exact this

set_option maxRecDepth 100000 in
set_option maxHeartbeats 1000000 in
theorem law45_awake  : Tri Tryz.prog 5 #[] [libW] [] (fun v L' => v = .bool true ∧ L' = []) := by
 refine Tri.enter (args := []) (body := _) 59 Tryz.func5 rfl Tryz.ntmps5 rfl ?_
 intro w0
 refine J.seq ?_
 refine J.region ?_
 refine O.p (Pu.assign rfl) rfl ?_
 refine O.nil ?_
 refine J.seq ?_
 refine J.region ?_
 refine O.p (Pu.assign rfl) rfl ?_
 refine O.nil ?_
 refine J.seq ?_
 refine J.seq ?_
 refine J.region ?_
 refine O.p (Pu.assign rfl) rfl ?_
 refine O.nil ?_
 refine J.block ?_
 refine J.nilRow 47 7 ?_
 refine J.loop (X := Nat × Value × List Ev) (fun ξ => ξ.1 ≤ 4 ∧ ξ.2.2 = Rp.awL ξ.1 ∧ ξ.2.2.length ≤ 3 * ξ.1) (fun ξ => [(0, .bool false), (1, ξ.2.1), (2, .int .i64 (ξ.1 : Int))]) (fun ξ => [row ξ.2.1 47 7 (ξ.2.2.map Ev.cells)]) (fun ξ => 4 - ξ.1) ⟨0, Value.slice none 0 0, []⟩ (show 0 ≤ 4 ∧ ([]) = Rp.awL 0 ∧ ([]).length ≤ 3 * 0 from ⟨by omega, rfl, by simp⟩) ⟨rfl, rfl, (congrArg (fun z => some (Value.int .i64 z)) (by first | rfl | omega : (0 : Int) = (0 : Int))), trivial⟩ [0] (by decide) rfl ?_
 rintro ⟨k, V, out⟩ hq1
 obtain ⟨hk, hout, hlen⟩ : k ≤ 4 ∧ out = Rp.awL k ∧ out.length ≤ 3 * k := hq1
 show J _ _ [(0, .bool false), (1, V), (2, .int .i64 (k : Int))] [row V 47 7 (out.map Ev.cells)]
 refine J.seq ?_
 refine J.seq ?_
 refine J.region ?_
 refine O.p (Pu.move rfl) rfl ?_
 refine O.p (Pu.lss rfl rfl) rfl ?_
 refine O.nil ?_
 refine J.cond rfl (fun h2 => ?_) (fun h2 => ?_)
 ·
  have p3 := of_decide_eq_true h2
  refine J.skip ?_
  refine J.seq ?_
  refine J.block ?_
  refine J.seq ?_
  refine J.region ?_
  refine O.p (Pu.move rfl) rfl ?_
  refine O.p (Pu.move rfl) rfl ?_
  refine O.p (Pu.move rfl) rfl ?_
  refine O.p (Pu.build [(0, .int .i64 1), (3, .int .i64 (k : Int)), (5, .int .i64 (k : Int))] [.int .i64 1, .int .i64 0, .int .i64 0, .int .i64 (k : Int), .int .i64 0, .int .i64 (k : Int), .int .i64 0] #[(0, 1), (1, 1), (2, 1), (3, 1), (4, 1), (5, 1), (6, 1)] Tryz.runUnderlying47 Tryz.zeroValue47 (places47 Tryz.underlying47) rfl (by kernel_rfl)) rfl ?_
  refine O.p (Pu.move rfl) rfl ?_
  refine O.p (Pu.build [(0, .int .i64 3), (3, .int .i64 (k : Int)), (5, .int .i64 2)] [.int .i64 3, .int .i64 0, .int .i64 0, .int .i64 (k : Int), .int .i64 0, .int .i64 2, .int .i64 0] #[(0, 1), (1, 1), (2, 1), (3, 1), (4, 1), (5, 1), (6, 1)] Tryz.runUnderlying47 Tryz.zeroValue47 (places47 Tryz.underlying47) rfl (by kernel_rfl)) rfl ?_
  refine O.l (Lo.buildM (s := 7) Ev.cells [(⟨1, 0, 0, (k : Int), 0, (k : Int), 0⟩ : Ev), (⟨3, 0, 0, (k : Int), 0, 2, 0⟩ : Ev)] [(0, .agg #[.int .i64 1, .int .i64 0, .int .i64 0, .int .i64 (k : Int), .int .i64 0, .int .i64 (k : Int), .int .i64 0]), (1, .agg #[.int .i64 3, .int .i64 0, .int .i64 0, .int .i64 (k : Int), .int .i64 0, .int .i64 2, .int .i64 0])] (by exact Tryz.runUnderlying32) (by exact Tryz.sizeOf47) (by exact Tryz.zeroValue47) rfl rfl rfl (by kernel_rfl) rfl rfl) rfl ?_
  rintro V4 _ rfl
  refine O.l (Lo.appendM (s := 7) 1 (by exact Tryz.underlying32) (by exact (info47).1) (by exact (info47).2.1) (by exact (info47).2.2.1) (by exact (info47).2.2.2) rfl rfl rfl rfl rfl (Src.row 0 rfl) Ev.one (by first | omega | decide | (simp only [List.length_append, List.length_cons, List.length_nil]; omega)) (by first | omega | decide | (simp only [List.length_append, List.length_cons, List.length_nil]; omega))) rfl ?_
  rintro V5 _ rfl
  refine O.p (Pu.assign rfl) rfl ?_
  refine O.nil ?_
  refine J.seq ?_
  refine J.region ?_
  refine O.p (Pu.move rfl) rfl ?_
  refine O.p (Pu.gtr rfl rfl) rfl ?_
  refine O.nil ?_
  refine J.cond rfl (fun h6 => ?_) (fun h6 => ?_)
  ·
   have p7 := of_decide_eq_true h6
   refine J.region ?_
   refine O.p (Pu.move rfl) rfl ?_
   refine O.p (Pu.move rfl) rfl ?_
   refine O.p (Pu.build [(0, .int .i64 4), (3, .int .i64 (k : Int)), (4, .int .i64 1)] [.int .i64 4, .int .i64 0, .int .i64 0, .int .i64 (k : Int), .int .i64 1, .int .i64 0, .int .i64 0] #[(0, 1), (1, 1), (2, 1), (3, 1), (4, 1), (5, 1), (6, 1)] Tryz.runUnderlying47 Tryz.zeroValue47 (places47 Tryz.underlying47) rfl (by kernel_rfl)) rfl ?_
   refine O.l (Lo.buildM (s := 7) Ev.cells [(⟨4, 0, 0, (k : Int), 1, 0, 0⟩ : Ev)] [(0, .agg #[.int .i64 4, .int .i64 0, .int .i64 0, .int .i64 (k : Int), .int .i64 1, .int .i64 0, .int .i64 0])] (by exact Tryz.runUnderlying32) (by exact Tryz.sizeOf47) (by exact Tryz.zeroValue47) rfl rfl rfl (by kernel_rfl) rfl rfl) rfl ?_
   rintro V8 _ rfl
   refine O.l (Lo.appendM (s := 7) 2 (by exact Tryz.underlying32) (by exact (info47).1) (by exact (info47).2.1) (by exact (info47).2.2.1) (by exact (info47).2.2.2) rfl rfl rfl rfl rfl (Src.row 0 rfl) Ev.one (by first | omega | decide | (simp only [List.length_append, List.length_cons, List.length_nil]; omega)) (by first | omega | decide | (simp only [List.length_append, List.length_cons, List.length_nil]; omega))) rfl ?_
   rintro V9 _ rfl
   refine O.p (Pu.assign rfl) rfl ?_
   refine O.nil ?_
   refine J.blk ?_
   refine J.region ?_
   refine O.p (Pu.move rfl) rfl ?_
   refine O.p (Pu.add' rfl rfl (by first | omega | (simp only [List.length_append, List.length_cons, List.length_nil, List.length_set]; omega))) rfl ?_
   refine O.p (Pu.assign rfl) rfl ?_
   refine O.nil ?_
   exact J.lp ⟨k + 1, V9, (out ++ ([(⟨1, 0, 0, (k : Int), 0, (k : Int), 0⟩ : Ev), (⟨3, 0, 0, (k : Int), 0, 2, 0⟩ : Ev)])) ++ ([(⟨4, 0, 0, (k : Int), 1, 0, 0⟩ : Ev)])⟩ (show (k + 1) ≤ 4 ∧ ((out ++ ([(⟨1, 0, 0, (k : Int), 0, (k : Int), 0⟩ : Ev), (⟨3, 0, 0, (k : Int), 0, 2, 0⟩ : Ev)])) ++ ([(⟨4, 0, 0, (k : Int), 1, 0, 0⟩ : Ev)])) = Rp.awL (k + 1) ∧ ((out ++ ([(⟨1, 0, 0, (k : Int), 0, (k : Int), 0⟩ : Ev), (⟨3, 0, 0, (k : Int), 0, 2, 0⟩ : Ev)])) ++ ([(⟨4, 0, 0, (k : Int), 1, 0, 0⟩ : Ev)])).length ≤ 3 * (k + 1) from ⟨by omega, (by rw [hout]; first | exact (Rp.awL_yes (by omega)).symm | exact (Rp.awL_no (by omega)).symm | (rw [List.append_assoc]; exact (Rp.awL_yes (by omega)).symm)), by simp only [List.length_append, List.length_cons, List.length_nil]; omega⟩) (show 4 - (k + 1) < 4 - k from (by first | omega | decide | (simp only [List.length_append, List.length_cons, List.length_nil]; omega))) ⟨rfl, rfl, (congrArg (fun z => some (Value.int .i64 z)) (by first | rfl | omega : ((k : Int) + 1 : Int) = ((k + 1) : Int))), trivial⟩ [2] (by decide) rfl
  ·
   have p10 := of_decide_eq_false h6
   refine J.skip ?_
   refine J.blk ?_
   refine J.region ?_
   refine O.p (Pu.move rfl) rfl ?_
   refine O.p (Pu.add' rfl rfl (by first | omega | (simp only [List.length_append, List.length_cons, List.length_nil, List.length_set]; omega))) rfl ?_
   refine O.p (Pu.assign rfl) rfl ?_
   refine O.nil ?_
   exact J.lp ⟨k + 1, V5, out ++ ([(⟨1, 0, 0, (k : Int), 0, (k : Int), 0⟩ : Ev), (⟨3, 0, 0, (k : Int), 0, 2, 0⟩ : Ev)])⟩ (show (k + 1) ≤ 4 ∧ (out ++ ([(⟨1, 0, 0, (k : Int), 0, (k : Int), 0⟩ : Ev), (⟨3, 0, 0, (k : Int), 0, 2, 0⟩ : Ev)])) = Rp.awL (k + 1) ∧ (out ++ ([(⟨1, 0, 0, (k : Int), 0, (k : Int), 0⟩ : Ev), (⟨3, 0, 0, (k : Int), 0, 2, 0⟩ : Ev)])).length ≤ 3 * (k + 1) from ⟨by omega, (by rw [hout]; first | exact (Rp.awL_yes (by omega)).symm | exact (Rp.awL_no (by omega)).symm | (rw [List.append_assoc]; exact (Rp.awL_yes (by omega)).symm)), by simp only [List.length_append, List.length_cons, List.length_nil]; omega⟩) (show 4 - (k + 1) < 4 - k from (by first | omega | decide | (simp only [List.length_append, List.length_cons, List.length_nil]; omega))) ⟨rfl, rfl, (congrArg (fun z => some (Value.int .i64 z)) (by first | rfl | omega : ((k : Int) + 1 : Int) = ((k + 1) : Int))), trivial⟩ [1] (by decide) rfl
 ·
  have p11 := of_decide_eq_false h2
  refine J.exit _ rfl ?_
  refine J.seq ?_
  refine J.region ?_
  refine O.p (Pu.move rfl) rfl ?_
  refine O.l (Lo.call [.int .i64 0, V] (by exact Tryz.call19) rfl (rp_Of_eq V out (by rw [hout, show k = 4 from by omega]; decide) Rp.awR 0 0 (by rw [hout, show k = 4 from by omega]; rfl)) [] [0] (by decide) rfl [row V 47 7 (out.map Ev.cells)] rfl (RoOk.of 0 rfl row_rd [] (by decide) rfl RoOk.nil)) rfl ?_
  rintro _ _ ⟨_, ⟨rfl, rfl⟩, rfl⟩
  refine O.p (Pu.move rfl) rfl ?_
  refine O.p (Pu.extract rfl rfl) rfl ?_
  refine O.p (Pu.extract rfl rfl) rfl ?_
  refine O.p (Pu.extract rfl rfl) rfl ?_
  refine O.l (Lo.alloc [.int .i64 0, .int .i64 0, .int .i64 0, .int .i64 0, .int .i64 0, .int .i64 0, .int .i64 0, .int .i64 0, .int .i64 0, .int .i64 0, .int .i64 0, .int .i64 0] (by exact Tryz.zeroValue23) rfl) rfl ?_
  rintro _ _ ⟨g13, rfl, rfl⟩
  refine O.l0 (Lo.store 0 (vs := [.int .i64 4, .int .i64 4, .int .i64 0, .int .i64 4, .int .i64 3, .int .i64 0, .int .i64 0, .int .i64 0, .int .i64 0, .int .i64 0, .int .i64 2, .int .i64 75]) [.int .i64 4, .int .i64 4, .int .i64 0, .int .i64 4, .int .i64 3, .int .i64 0, .int .i64 0, .int .i64 0, .int .i64 0, .int .i64 0, .int .i64 2, .int .i64 75] rfl rfl rfl (by exact Tryz.sizeOf23) rfl rfl rfl rfl rfl) ?_
  rintro _ _ rfl
  refine O.p (Pu.assign rfl) rfl ?_
  refine O.p (Pu.assign rfl) rfl ?_
  refine O.nil ?_
  refine J.seq ?_
  refine J.region ?_
  refine O.q (Qt.ld rfl (Cel.var 0 rfl) (o := 0) (off := 0) rfl (Cut.agg [.int .i64 4, .int .i64 4, .int .i64 0, .int .i64 4, .int .i64 3, .int .i64 0, .int .i64 0, .int .i64 0, .int .i64 0, .int .i64 0, .int .i64 2, .int .i64 75] Tryz.isAgg23 Tryz.sizeOf23 rfl rfl)) rfl ?_
  refine O.l (Lo.call [.agg #[.int .i64 4, .int .i64 4, .int .i64 0, .int .i64 4, .int .i64 3, .int .i64 0, .int .i64 0, .int .i64 0, .int .i64 0, .int .i64 0, .int .i64 2, .int .i64 75]] (by exact Tryz.call8) rfl (rp_Line (⟨4, 4, 0, 4, 3, 0, 0, 0, 0, 0, 2, 75⟩ : Rep) Rp.aw_I) [] [0, 1] (by decide) rfl [var g13 [.int .i64 4, .int .i64 4, .int .i64 0, .int .i64 4, .int .i64 3, .int .i64 0, .int .i64 0, .int .i64 0, .int .i64 0, .int .i64 0, .int .i64 2, .int .i64 75] 23, row V 47 7 (out.map Ev.cells)] rfl (RoOk.ro 0 rfl [] rfl RoOk.nil)) rfl ?_
  rintro _ _ ⟨_, ⟨rfl, rfl⟩, rfl⟩
  refine O.l (Lo.call [str (Rp.line (⟨4, 4, 0, 4, 3, 0, 0, 0, 0, 0, 2, 75⟩ : Rep))] (by exact Tryz.call6) rfl (rp_Parse_eq (Rp.line (⟨4, 4, 0, 4, 3, 0, 0, 0, 0, 0, 2, 75⟩ : Rep)) (Nat.le_trans (Rp.line_len Rp.aw_I) (by decide)) Rp.awR 0 (Rp.parse_back Rp.aw_I)) [] [0, 1] (by decide) rfl [var g13 [.int .i64 4, .int .i64 4, .int .i64 0, .int .i64 4, .int .i64 3, .int .i64 0, .int .i64 0, .int .i64 0, .int .i64 0, .int .i64 0, .int .i64 2, .int .i64 75] 23, row V 47 7 (out.map Ev.cells)] rfl (RoOk.ro 0 rfl [] rfl RoOk.nil)) rfl ?_
  rintro _ _ ⟨_, ⟨rfl, rfl⟩, rfl⟩
  refine O.p (Pu.move rfl) rfl ?_
  refine O.p (Pu.extract rfl rfl) rfl ?_
  refine O.p (Pu.extract rfl rfl) rfl ?_
  refine O.l (Lo.alloc [.int .i64 0, .int .i64 0, .int .i64 0, .int .i64 0, .int .i64 0, .int .i64 0, .int .i64 0, .int .i64 0, .int .i64 0, .int .i64 0, .int .i64 0, .int .i64 0] (by exact Tryz.zeroValue23) rfl) rfl ?_
  rintro _ _ ⟨g16, rfl, rfl⟩
  refine O.l0 (Lo.store 0 (vs := [.int .i64 4, .int .i64 4, .int .i64 0, .int .i64 4, .int .i64 3, .int .i64 0, .int .i64 0, .int .i64 0, .int .i64 0, .int .i64 0, .int .i64 2, .int .i64 75]) [.int .i64 4, .int .i64 4, .int .i64 0, .int .i64 4, .int .i64 3, .int .i64 0, .int .i64 0, .int .i64 0, .int .i64 0, .int .i64 0, .int .i64 2, .int .i64 75] rfl rfl rfl (by exact Tryz.sizeOf23) rfl rfl rfl rfl rfl) ?_
  rintro _ _ rfl
  refine O.p (Pu.assign rfl) rfl ?_
  refine O.nil ?_
  refine J.seq ?_
  refine J.region ?_
  refine O.q (Qt.ld rfl (Cel.var 1 rfl) (o := 0) (off := 0) rfl (Cut.agg [.int .i64 4, .int .i64 4, .int .i64 0, .int .i64 4, .int .i64 3, .int .i64 0, .int .i64 0, .int .i64 0, .int .i64 0, .int .i64 0, .int .i64 2, .int .i64 75] Tryz.isAgg23 Tryz.sizeOf23 rfl rfl)) rfl ?_
  refine O.p (Pu.build [(0, .int .i64 4), (1, .int .i64 4), (3, .int .i64 4), (4, .int .i64 3), (10, .int .i64 2), (11, .int .i64 75)] [.int .i64 4, .int .i64 4, .int .i64 0, .int .i64 4, .int .i64 3, .int .i64 0, .int .i64 0, .int .i64 0, .int .i64 0, .int .i64 0, .int .i64 2, .int .i64 75] #[(0, 1), (1, 1), (2, 1), (3, 1), (4, 1), (5, 1), (6, 1), (7, 1), (8, 1), (9, 1), (10, 1), (11, 1)] Tryz.runUnderlying23 Tryz.zeroValue23 (places23 Tryz.underlying23) rfl (by kernel_rfl)) rfl ?_
  refine O.p (Pu.eqlI [4, 4, 0, 4, 3, 0, 0, 0, 0, 0, 2, 75] [4, 4, 0, 4, 3, 0, 0, 0, 0, 0, 2, 75] Tryz.underlying23 Tryz.stoodInHeld23 Tryz.eqGuardType23 (fint23 Tryz.underlying23) rfl rfl rfl rfl) rfl ?_
  refine O.p (Pu.move rfl) rfl ?_
  refine O.gq (t := 42) rfl rfl (by simp) rfl (Pu.qt (Pu.move rfl)) rfl ?_
  refine O.gq (t := 42) rfl rfl (by simp) rfl (Pu.qt (Pu.eql rfl rfl)) rfl ?_
  refine O.p (Pu.pickT rfl (by simp) rfl) rfl ?_
  refine O.p (Pu.move rfl) rfl ?_
  refine O.gq (t := 46) rfl rfl rfl rfl (Qt.ld rfl (Cel.var 0 rfl) (o := 0) (off := 0) rfl (Cut.agg [.int .i64 4, .int .i64 4, .int .i64 0, .int .i64 4, .int .i64 3, .int .i64 0, .int .i64 0, .int .i64 0, .int .i64 0, .int .i64 0, .int .i64 2, .int .i64 75] Tryz.isAgg23 Tryz.sizeOf23 rfl rfl)) rfl ?_
  refine O.gq (t := 46) rfl rfl rfl rfl (Qt.ld rfl (Cel.var 1 rfl) (o := 0) (off := 0) rfl (Cut.agg [.int .i64 4, .int .i64 4, .int .i64 0, .int .i64 4, .int .i64 3, .int .i64 0, .int .i64 0, .int .i64 0, .int .i64 0, .int .i64 0, .int .i64 2, .int .i64 75] Tryz.isAgg23 Tryz.sizeOf23 rfl rfl)) rfl ?_
  refine O.gq (t := 46) rfl rfl rfl rfl (Pu.qt (Pu.eqlI [4, 4, 0, 4, 3, 0, 0, 0, 0, 0, 2, 75] [4, 4, 0, 4, 3, 0, 0, 0, 0, 0, 2, 75] Tryz.underlying23 Tryz.stoodInHeld23 Tryz.eqGuardType23 (fint23 Tryz.underlying23) rfl rfl rfl rfl)) rfl ?_
  refine O.p (Pu.pickT rfl rfl rfl) rfl ?_
  refine O.p (Pu.move rfl) rfl ?_
  refine O.gq (t := 51) rfl rfl (by simp) rfl (Pu.qt (Pu.move rfl)) rfl ?_
  refine O.gq (t := 51) rfl rfl (by simp) rfl (Pu.qt (Pu.eql rfl rfl)) rfl ?_
  refine O.p (Pu.pickT rfl (by simp) rfl) rfl ?_
  refine O.p (Pu.move rfl) rfl ?_
  refine O.gq (t := 55) rfl rfl rfl rfl (Qt.ld rfl (Cel.var 1 rfl) (o := 0) (off := 0) rfl (Cut.agg [.int .i64 4, .int .i64 4, .int .i64 0, .int .i64 4, .int .i64 3, .int .i64 0, .int .i64 0, .int .i64 0, .int .i64 0, .int .i64 0, .int .i64 2, .int .i64 75] Tryz.isAgg23 Tryz.sizeOf23 rfl rfl)) rfl ?_
  refine O.gl (t := 55) rfl rfl rfl rfl (Lo.call [.agg #[.int .i64 4, .int .i64 4, .int .i64 0, .int .i64 4, .int .i64 3, .int .i64 0, .int .i64 0, .int .i64 0, .int .i64 0, .int .i64 0, .int .i64 2, .int .i64 75]] (by exact Tryz.call12) rfl (rp_Right (⟨4, 4, 0, 4, 3, 0, 0, 0, 0, 0, 2, 75⟩ : Rep)) [] [0, 1, 2] (by decide) rfl [var g16 [.int .i64 4, .int .i64 4, .int .i64 0, .int .i64 4, .int .i64 3, .int .i64 0, .int .i64 0, .int .i64 0, .int .i64 0, .int .i64 0, .int .i64 2, .int .i64 75] 23, var g13 [.int .i64 4, .int .i64 4, .int .i64 0, .int .i64 4, .int .i64 3, .int .i64 0, .int .i64 0, .int .i64 0, .int .i64 0, .int .i64 0, .int .i64 2, .int .i64 75] 23, row V 47 7 (out.map Ev.cells)] rfl RoOk.nil) rfl ?_
  rintro _ _ ⟨_, ⟨rfl, rfl⟩, rfl⟩
  refine O.p (Pu.pickT rfl rfl rfl) rfl ?_
  refine O.p (Pu.assign rfl) rfl ?_
  refine O.nil ?_
  exact J.ret (Fin.ret (rs := [.tmp 0]) rfl [_] ⟨rfl, trivial⟩ [] (by decide) [] rfl ⟨rfl, rfl⟩)

end Go.Proofs.YtnkhmbbnabejhaaGreatDoor
