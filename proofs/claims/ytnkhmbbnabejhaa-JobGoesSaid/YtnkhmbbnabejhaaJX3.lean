/-
  Walks, printed by a program of mine (lk.py): each function meets its contract.
-/
import Derived.KernelRfl
import Derived.Test.YtnkhmbbnabejhaaJX2
namespace Go.Proofs.Ytnkhmbbnabejhaa
open Go Go.LK
set_option linter.unusedSimpArgs false

theorem jb_DoneE2 (x0 x1 x2 x3 x4 x5 x6 : Int) (qv lv : Value) (hq : Value.oneCell' qv = true) (l : List Int) (he : l = []) : Tri Try.prog 12 #[.agg #[.int .i64 x0, .int .i64 x1, .int .i64 x2, .int .i64 x3, .int .i64 x4, .int .i64 x5, .int .i64 x6, .int .i64 1, qv], lv] [rd lv 1 (l.map encZ)] [] (fun v L' => v = .tuple #[.agg #[.int .i64 0, .int .i64 0, .int .i64 0, .int .i64 0, .int .i64 0, .int .i64 0, .int .i64 0, .int .i64 0, Value.slice none 0 0], .int .i64 1, .int .i64 0] ∧ L' = []) := by
  subst he; exact jb_DoneE x0 x1 x2 x3 x4 x5 x6 qv lv hq
theorem r32_DoneE2 (x0 x1 x2 x3 x4 x5 x6 : Int) (qv lv : Value) (hq : Value.oneCell' qv = true) (l : List Int) (he : l = []) : Tri Try.prog 32 #[.agg #[.int .i64 x0, .int .i64 x1, .int .i64 x2, .int .i64 x3, .int .i64 x4, .int .i64 x5, .int .i64 x6, .int .i64 1, qv], lv] [rd lv 1 (l.map encZ)] [] (fun v L' => v = .tuple #[.agg #[.int .i64 0, .int .i64 0, .int .i64 0, .int .i64 0, .int .i64 0, .int .i64 0, .int .i64 0, .int .i64 0, Value.slice none 0 0], .int .i64 1, .int .i64 0] ∧ L' = []) := by
  subst he; exact r32_DoneE x0 x1 x2 x3 x4 x5 x6 qv lv hq

set_option maxRecDepth 100000 in
theorem law32_awake  : Tri Try.prog 11 #[] [] [] (fun v L' => v = .bool true ∧ L' = []) := by
  refine Tri.enter (args := []) (body := _) 63 Try.func11 rfl Try.ntmps11 rfl ?_
  intro w0
  refine J.seq ?_
  refine J.region ?_
  refine O.p (Pu.assign rfl) rfl ?_
  refine O.nil ?_
  refine J.seq ?_
  refine J.region ?_
  refine O.p (Pu.build [(0, .int .i64 9), (3, .int .i64 7)] [.int .i64 9, .int .i64 0, .int .i64 0, .int .i64 7, .int .i64 0, .int .i64 0, .int .i64 0] #[(0, 1), (1, 1), (2, 1), (3, 1), (4, 1), (5, 1), (6, 1)] Try.runUnderlying23 Try.zeroValue23 (places23 Try.underlying23) rfl (by kernel_rfl)) rfl ?_
  refine O.l (Lo.call [.agg #[.int .i64 9, .int .i64 0, .int .i64 0, .int .i64 7, .int .i64 0, .int .i64 0, .int .i64 0]] (by exact Try.call13) rfl (jb_New 9 0 0 7 0 0 0) [] [] (by decide) rfl [] rfl RoOk.nil) rfl ?_
  rintro _ _ ⟨_, ⟨rfl, rfl⟩, rfl⟩
  refine O.l (Lo.buildM (s := 1) encZ [5, 3] [(0, .int .i64 5), (1, .int .i64 3)] (by exact Try.runUnderlying24) (by exact Try.sizeOf3) (by exact Try.zeroValue3) rfl rfl rfl (by kernel_rfl) rfl rfl) rfl ?_
  rintro V2 _ rfl
  refine O.l (Lo.call [.agg #[.int .i64 9, .int .i64 0, .int .i64 0, .int .i64 7, .int .i64 0, .int .i64 0, .int .i64 0, .int .i64 1, Value.slice none 0 0], V2] (by exact Try.call12) rfl (jb_Done 9 0 0 7 0 0 0 (Value.slice none 0 0) V2 ([5, 3]) rfl (by decide) (of_decide_eq_false (by decide))) [] [0] (by decide) rfl [row V2 3 1 (([5, 3]).map encZ)] rfl (RoOk.of 0 rfl row_rd [] (by decide) rfl RoOk.nil)) rfl ?_
  rintro _ _ ⟨_, ⟨V3, rfl, rfl⟩, rfl⟩
  refine O.p (Pu.move rfl) rfl ?_
  refine O.p (Pu.extract rfl rfl) rfl ?_
  refine O.p (Pu.extract rfl rfl) rfl ?_
  refine O.p (Pu.extract rfl rfl) rfl ?_
  refine O.l (Lo.alloc [.int .i64 0, .int .i64 0, .int .i64 0, .int .i64 0, .int .i64 0, .int .i64 0, .int .i64 0, .int .i64 0, Value.slice none 0 0] (by exact Try.zeroValue28) rfl) rfl ?_
  rintro _ _ ⟨g5, rfl, rfl⟩
  refine O.one (Src.row 1 rfl) (fun hV6 => ?_)
  refine O.l0 (Lo.store 0 (vs := [.int .i64 9, .int .i64 0, .int .i64 0, .int .i64 7, .int .i64 0, .int .i64 0, .int .i64 0, .int .i64 2, V3]) [.int .i64 9, .int .i64 0, .int .i64 0, .int .i64 7, .int .i64 0, .int .i64 0, .int .i64 0, .int .i64 2, V3] rfl rfl rfl (by exact Try.sizeOf28) rfl rfl (by simp only [List.all_cons, List.all_nil, Bool.and_true, hV6] <;> rfl) rfl rfl) ?_
  rintro _ _ rfl
  refine O.p (Pu.assign rfl) rfl ?_
  refine O.p (Pu.assign rfl) rfl ?_
  refine O.nil ?_
  refine J.seq ?_
  refine J.region ?_
  refine O.q (Qt.ld rfl (Cel.var 0 rfl) (o := 0) (off := 0) rfl (Cut.agg [.int .i64 9, .int .i64 0, .int .i64 0, .int .i64 7, .int .i64 0, .int .i64 0, .int .i64 0, .int .i64 2, V3] Try.isAgg28 Try.sizeOf28 rfl rfl)) rfl ?_
  refine O.l (Lo.call [.agg #[.int .i64 9, .int .i64 0, .int .i64 0, .int .i64 7, .int .i64 0, .int .i64 0, .int .i64 0, .int .i64 2, V3], .int .i64 5, .int .i64 1] (by exact Try.call14) rfl (jb_Heard 9 0 0 7 0 0 0 V3 (Jb.rising ([5, 3])) 5 (by decide) (of_decide_eq_true (by decide)) (by exact Jb.rising_up _) (of_decide_eq_false (by decide))) [] [0, 1, 2] (by decide) rfl [var g5 [.int .i64 9, .int .i64 0, .int .i64 0, .int .i64 7, .int .i64 0, .int .i64 0, .int .i64 0, .int .i64 2, V3] 28, row V3 3 1 ((Jb.rising ([5, 3])).map encZ), row V2 3 1 (([5, 3]).map encZ)] rfl (RoOk.of 1 rfl row_rd [] (by decide) rfl RoOk.nil)) rfl ?_
  rintro _ _ ⟨_, ⟨V7, rfl, rfl⟩, rfl⟩
  refine O.p (Pu.move rfl) rfl ?_
  refine O.p (Pu.extract rfl rfl) rfl ?_
  refine O.p (Pu.extract rfl rfl) rfl ?_
  refine O.l (Lo.alloc [.int .i64 0, .int .i64 0, .int .i64 0, .int .i64 0, .int .i64 0, .int .i64 0, .int .i64 0, .int .i64 0, Value.slice none 0 0] (by exact Try.zeroValue28) rfl) rfl ?_
  rintro _ _ ⟨g9, rfl, rfl⟩
  refine O.one (Src.row 1 rfl) (fun hV10 => ?_)
  refine O.l0 (Lo.store 0 (vs := [.int .i64 9, .int .i64 0, .int .i64 0, .int .i64 7, .int .i64 0, .int .i64 0, .int .i64 0, .int .i64 2, V7]) [.int .i64 9, .int .i64 0, .int .i64 0, .int .i64 7, .int .i64 0, .int .i64 0, .int .i64 0, .int .i64 2, V7] rfl rfl rfl (by exact Try.sizeOf28) rfl rfl (by simp only [List.all_cons, List.all_nil, Bool.and_true, hV10] <;> rfl) rfl rfl) ?_
  rintro _ _ rfl
  refine O.p (Pu.assign rfl) rfl ?_
  refine O.nil ?_
  refine J.seq ?_
  refine J.region ?_
  refine O.q (Qt.ld rfl (Cel.var 0 rfl) (o := 0) (off := 0) rfl (Cut.agg [.int .i64 9, .int .i64 0, .int .i64 0, .int .i64 7, .int .i64 0, .int .i64 0, .int .i64 0, .int .i64 2, V7] Try.isAgg28 Try.sizeOf28 rfl rfl)) rfl ?_
  refine O.l (Lo.call [.agg #[.int .i64 9, .int .i64 0, .int .i64 0, .int .i64 7, .int .i64 0, .int .i64 0, .int .i64 0, .int .i64 2, V7], .int .i64 3, .int .i64 2] (by exact Try.call14) rfl (jb_HeardBad 9 0 0 7 0 0 0 V7 (Jb.without (Jb.rising ([5, 3])) 5) 3 2 (by decide) (of_decide_eq_true (by decide)) (of_decide_eq_false (by decide))) [] [0, 1, 2, 3, 4] (by decide) rfl [var g9 [.int .i64 9, .int .i64 0, .int .i64 0, .int .i64 7, .int .i64 0, .int .i64 0, .int .i64 0, .int .i64 2, V7] 28, row V7 3 1 ((Jb.without (Jb.rising ([5, 3])) 5).map encZ), var g5 [.int .i64 9, .int .i64 0, .int .i64 0, .int .i64 7, .int .i64 0, .int .i64 0, .int .i64 0, .int .i64 2, V3] 28, row V3 3 1 ((Jb.rising ([5, 3])).map encZ), row V2 3 1 (([5, 3]).map encZ)] rfl (RoOk.of 1 rfl row_rd [] (by decide) rfl RoOk.nil)) rfl ?_
  rintro _ _ ⟨_, ⟨rfl, rfl⟩, rfl⟩
  refine O.p (Pu.move rfl) rfl ?_
  refine O.p (Pu.extract rfl rfl) rfl ?_
  refine O.p (Pu.extract rfl rfl) rfl ?_
  refine O.l (Lo.alloc [.int .i64 0, .int .i64 0, .int .i64 0, .int .i64 0, .int .i64 0, .int .i64 0, .int .i64 0, .int .i64 0, Value.slice none 0 0] (by exact Try.zeroValue28) rfl) rfl ?_
  rintro _ _ ⟨g12, rfl, rfl⟩
  refine O.l0 (Lo.store 0 (vs := [.int .i64 0, .int .i64 0, .int .i64 0, .int .i64 0, .int .i64 0, .int .i64 0, .int .i64 0, .int .i64 0, Value.slice none 0 0]) [.int .i64 0, .int .i64 0, .int .i64 0, .int .i64 0, .int .i64 0, .int .i64 0, .int .i64 0, .int .i64 0, Value.slice none 0 0] rfl rfl rfl (by exact Try.sizeOf28) rfl rfl rfl rfl rfl) ?_
  rintro _ _ rfl
  refine O.p (Pu.assign rfl) rfl ?_
  refine O.nil ?_
  refine J.seq ?_
  refine J.region ?_
  refine O.p (Pu.move rfl) rfl ?_
  refine O.p (Pu.eql rfl rfl) rfl ?_
  refine O.p (Pu.move rfl) rfl ?_
  refine O.gq (t := 28) rfl rfl rfl rfl (Pu.qt (Pu.move rfl)) rfl ?_
  refine O.gq (t := 28) rfl rfl rfl rfl (Pu.qt (Pu.eql rfl rfl)) rfl ?_
  refine O.p (Pu.pickT rfl rfl rfl) rfl ?_
  refine O.p (Pu.move rfl) rfl ?_
  refine O.gq (t := 32) rfl rfl rfl rfl (Qt.ld rfl (Cel.var 3 rfl) (o := 0) (off := 0) rfl (Cut.agg [.int .i64 9, .int .i64 0, .int .i64 0, .int .i64 7, .int .i64 0, .int .i64 0, .int .i64 0, .int .i64 2, V3] Try.isAgg28 Try.sizeOf28 rfl rfl)) rfl ?_
  refine O.gq (t := 32) rfl rfl rfl rfl (Pu.qt (Pu.build [(0, .int .i64 9), (3, .int .i64 7)] [.int .i64 9, .int .i64 0, .int .i64 0, .int .i64 7, .int .i64 0, .int .i64 0, .int .i64 0] #[(0, 1), (1, 1), (2, 1), (3, 1), (4, 1), (5, 1), (6, 1)] Try.runUnderlying23 Try.zeroValue23 (places23 Try.underlying23) rfl (by kernel_rfl))) rfl ?_
  refine O.gl (t := 32) rfl rfl rfl rfl (Lo.buildM (s := 1) encZ [3, 5] [(0, .int .i64 3), (1, .int .i64 5)] (by exact Try.runUnderlying24) (by exact Try.sizeOf3) (by exact Try.zeroValue3) rfl rfl rfl (by kernel_rfl) rfl rfl) rfl ?_
  rintro V13 _ rfl
  refine O.one (Src.row 0 rfl) (fun hV14 => ?_)
  refine O.gq (t := 32) rfl rfl rfl rfl (Pu.qt (Pu.build [(0, .agg #[.int .i64 9, .int .i64 0, .int .i64 0, .int .i64 7, .int .i64 0, .int .i64 0, .int .i64 0]), (1, .int .i64 2), (2, V13)] [.int .i64 9, .int .i64 0, .int .i64 0, .int .i64 7, .int .i64 0, .int .i64 0, .int .i64 0, .int .i64 2, V13] #[(0, 7), (7, 1), (8, 1)] Try.runUnderlying28 Try.zeroValue28 (places28 Try.underlying28) rfl (by cases V13 <;> first | (simp [Value.oneCell'] at hV14; done) | (kernel_rfl; done)))) rfl ?_
  refine O.gl (t := 32) rfl rfl rfl rfl (Lo.call [.agg #[.int .i64 9, .int .i64 0, .int .i64 0, .int .i64 7, .int .i64 0, .int .i64 0, .int .i64 0, .int .i64 2, V3], .agg #[.int .i64 9, .int .i64 0, .int .i64 0, .int .i64 7, .int .i64 0, .int .i64 0, .int .i64 0, .int .i64 2, V13]] (by exact Try.call15) rfl (r32_Same 9 0 0 7 0 0 0 2 V3 (Jb.rising ([5, 3])) 9 0 0 7 0 0 0 2 V13 ([3, 5]) (by decide) (by decide)) [] [0, 1, 2, 3, 4, 5, 6] (by decide) rfl [row V13 3 1 (([3, 5]).map encZ), var g12 [.int .i64 0, .int .i64 0, .int .i64 0, .int .i64 0, .int .i64 0, .int .i64 0, .int .i64 0, .int .i64 0, Value.slice none 0 0] 28, var g9 [.int .i64 9, .int .i64 0, .int .i64 0, .int .i64 7, .int .i64 0, .int .i64 0, .int .i64 0, .int .i64 2, V7] 28, row V7 3 1 ((Jb.without (Jb.rising ([5, 3])) 5).map encZ), var g5 [.int .i64 9, .int .i64 0, .int .i64 0, .int .i64 7, .int .i64 0, .int .i64 0, .int .i64 0, .int .i64 2, V3] 28, row V3 3 1 ((Jb.rising ([5, 3])).map encZ), row V2 3 1 (([5, 3]).map encZ)] rfl (RoOk.of 5 rfl row_rd [] (by decide) rfl (RoOk.of 0 rfl row_rd [] (by decide) rfl RoOk.nil))) rfl ?_
  rintro _ _ ⟨_, ⟨rfl, rfl⟩, rfl⟩
  refine O.p (Pu.pickT rfl rfl rfl) rfl ?_
  refine O.p (Pu.move rfl) rfl ?_
  refine O.gq (t := 39) rfl rfl (by decide) rfl (Pu.qt (Pu.move rfl)) rfl ?_
  refine O.gq (t := 39) rfl rfl (by decide) rfl (Pu.qt (Pu.eql rfl rfl)) rfl ?_
  refine O.p (Pu.pickT rfl (by decide) rfl) rfl ?_
  refine O.p (Pu.move rfl) rfl ?_
  refine O.gq (t := 43) rfl rfl rfl rfl (Pu.qt (Pu.fieldAddr (off' := 8) Try.runUnderlying28 rfl Try.sizeOf24 rfl rfl rfl)) rfl ?_
  refine O.gq (t := 43) rfl rfl rfl rfl (Qt.ld rfl (Cel.var 2 rfl) (o := 0) (off := 8) rfl (Cut.one Try.isAgg24 rfl)) rfl ?_
  refine O.gq (t := 43) rfl rfl rfl rfl (Qt.lenM Try.runUnderlying24 rfl (Src.row 3 rfl)) rfl ?_
  refine O.gq (t := 43) rfl rfl rfl rfl (Pu.qt (Pu.eql rfl rfl)) rfl ?_
  refine O.p (Pu.pickT rfl rfl rfl) rfl ?_
  refine O.p (Pu.move rfl) rfl ?_
  refine O.gq (t := 49) rfl rfl (by decide) rfl (Pu.qt (Pu.move rfl)) rfl ?_
  refine O.gq (t := 49) rfl rfl (by decide) rfl (Pu.qt (Pu.eql rfl rfl)) rfl ?_
  refine O.p (Pu.pickT rfl (by decide) rfl) rfl ?_
  refine O.p (Pu.move rfl) rfl ?_
  refine O.gq (t := 53) rfl rfl rfl rfl (Qt.ld rfl (Cel.var 2 rfl) (o := 0) (off := 0) rfl (Cut.agg [.int .i64 9, .int .i64 0, .int .i64 0, .int .i64 7, .int .i64 0, .int .i64 0, .int .i64 0, .int .i64 2, V7] Try.isAgg28 Try.sizeOf28 rfl rfl)) rfl ?_
  refine O.gl (t := 53) rfl rfl rfl rfl (Lo.call [.agg #[.int .i64 9, .int .i64 0, .int .i64 0, .int .i64 7, .int .i64 0, .int .i64 0, .int .i64 0, .int .i64 2, V7], .int .i64 7] (by exact Try.call35) rfl (jb_Ends 9 0 0 7 0 0 0 2 7 V7 hV10) [] [0, 1, 2, 3, 4, 5, 6] (by decide) rfl [row V13 3 1 (([3, 5]).map encZ), var g12 [.int .i64 0, .int .i64 0, .int .i64 0, .int .i64 0, .int .i64 0, .int .i64 0, .int .i64 0, .int .i64 0, Value.slice none 0 0] 28, var g9 [.int .i64 9, .int .i64 0, .int .i64 0, .int .i64 7, .int .i64 0, .int .i64 0, .int .i64 0, .int .i64 2, V7] 28, row V7 3 1 ((Jb.without (Jb.rising ([5, 3])) 5).map encZ), var g5 [.int .i64 9, .int .i64 0, .int .i64 0, .int .i64 7, .int .i64 0, .int .i64 0, .int .i64 0, .int .i64 2, V3] 28, row V3 3 1 ((Jb.rising ([5, 3])).map encZ), row V2 3 1 (([5, 3]).map encZ)] rfl RoOk.nil) rfl ?_
  rintro _ _ ⟨_, ⟨rfl, rfl⟩, rfl⟩
  refine O.gq (t := 53) rfl rfl rfl rfl (Pu.qt (Pu.eql rfl rfl)) rfl ?_
  refine O.p (Pu.pickT rfl rfl rfl) rfl ?_
  refine O.p (Pu.move rfl) rfl ?_
  refine O.gq (t := 58) rfl rfl (by decide) rfl (Qt.ld rfl (Cel.var 2 rfl) (o := 0) (off := 0) rfl (Cut.agg [.int .i64 9, .int .i64 0, .int .i64 0, .int .i64 7, .int .i64 0, .int .i64 0, .int .i64 0, .int .i64 2, V7] Try.isAgg28 Try.sizeOf28 rfl rfl)) rfl ?_
  refine O.gl (t := 58) rfl rfl (by decide) rfl (Lo.call [.agg #[.int .i64 9, .int .i64 0, .int .i64 0, .int .i64 7, .int .i64 0, .int .i64 0, .int .i64 0, .int .i64 2, V7], .int .i64 6] (by exact Try.call35) rfl (jb_Ends 9 0 0 7 0 0 0 2 6 V7 hV10) [] [0, 1, 2, 3, 4, 5, 6] (by decide) rfl [row V13 3 1 (([3, 5]).map encZ), var g12 [.int .i64 0, .int .i64 0, .int .i64 0, .int .i64 0, .int .i64 0, .int .i64 0, .int .i64 0, .int .i64 0, Value.slice none 0 0] 28, var g9 [.int .i64 9, .int .i64 0, .int .i64 0, .int .i64 7, .int .i64 0, .int .i64 0, .int .i64 0, .int .i64 2, V7] 28, row V7 3 1 ((Jb.without (Jb.rising ([5, 3])) 5).map encZ), var g5 [.int .i64 9, .int .i64 0, .int .i64 0, .int .i64 7, .int .i64 0, .int .i64 0, .int .i64 0, .int .i64 2, V3] 28, row V3 3 1 ((Jb.rising ([5, 3])).map encZ), row V2 3 1 (([5, 3]).map encZ)] rfl RoOk.nil) rfl ?_
  rintro _ _ ⟨_, ⟨rfl, rfl⟩, rfl⟩
  refine O.gq (t := 58) rfl rfl (by decide) rfl (Pu.qt (Pu.eql rfl rfl)) rfl ?_
  refine O.p (Pu.pickT rfl (by decide) rfl) rfl ?_
  refine O.p (Pu.assign rfl) rfl ?_
  refine O.nil ?_
  exact J.ret (Fin.ret (rs := [.tmp 0]) rfl [_] ⟨rfl, trivial⟩ [] (by decide) [] rfl ⟨rfl, rfl⟩)

end Go.Proofs.Ytnkhmbbnabejhaa
