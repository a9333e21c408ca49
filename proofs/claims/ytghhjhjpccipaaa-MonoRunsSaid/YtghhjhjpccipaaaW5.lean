/-
  Walks, printed by a program of mine (lk.py): each function meets its contract.
-/
import Derived.KernelRfl
import Derived.Test.YtghhjhjpccipaaaW4
namespace Go.Proofs.Ytghhjhjpccipaaa
open Go Go.LK

set_option maxRecDepth 100000 in
theorem law42_awake  : Tri Try.prog 8 #[] [] [] (fun v L' => v = .bool true ∧ L' = []) := by
  refine Tri.enter (args := []) (body := _) 56 Try.func8 rfl Try.ntmps8 rfl ?_
  intro w0
  refine J.seq ?_
  refine J.region ?_
  refine O.p (Pu.assign rfl) rfl ?_
  refine O.nil ?_
  refine J.seq ?_
  refine J.region ?_
  refine O.p (Pu.build [(0, .int .i64 1), (5, .int .i64 2), (6, .int .i64 4)] [.int .i64 1, .int .i64 0, .int .i64 0, .int .i64 0, .int .i64 0, .int .i64 2, .int .i64 4] #[(0, 1), (1, 1), (2, 1), (3, 1), (4, 1), (5, 1), (6, 1)] Try.runUnderlying93 Try.zeroValue93 (places93 Try.underlying93) rfl (by kernel_rfl)) rfl ?_
  refine O.p (Pu.build [(0, .int .i64 1), (5, .int .i64 5), (4, .int .i64 2), (6, .int .i64 4)] [.int .i64 1, .int .i64 0, .int .i64 0, .int .i64 0, .int .i64 2, .int .i64 5, .int .i64 4] #[(0, 1), (1, 1), (2, 1), (3, 1), (4, 1), (5, 1), (6, 1)] Try.runUnderlying93 Try.zeroValue93 (places93 Try.underlying93) rfl (by kernel_rfl)) rfl ?_
  refine O.p (Pu.build [(0, .int .i64 1), (5, .int .i64 6), (6, .int .i64 4)] [.int .i64 1, .int .i64 0, .int .i64 0, .int .i64 0, .int .i64 0, .int .i64 6, .int .i64 4] #[(0, 1), (1, 1), (2, 1), (3, 1), (4, 1), (5, 1), (6, 1)] Try.runUnderlying93 Try.zeroValue93 (places93 Try.underlying93) rfl (by kernel_rfl)) rfl ?_
  refine O.l (Lo.alloc [.int .i64 0, .int .i64 0, .int .i64 0, .int .i64 0, .int .i64 0, .int .i64 0, .int .i64 0] (by exact Try.zeroValue93) rfl) rfl ?_
  rintro _ _ ⟨g1, rfl, rfl⟩
  refine O.l (Lo.alloc [.int .i64 0, .int .i64 0, .int .i64 0, .int .i64 0, .int .i64 0, .int .i64 0, .int .i64 0] (by exact Try.zeroValue93) rfl) rfl ?_
  rintro _ _ ⟨g2, rfl, rfl⟩
  refine O.l (Lo.alloc [.int .i64 0, .int .i64 0, .int .i64 0, .int .i64 0, .int .i64 0, .int .i64 0, .int .i64 0] (by exact Try.zeroValue93) rfl) rfl ?_
  rintro _ _ ⟨g3, rfl, rfl⟩
  refine O.l0 (Lo.store 2 (vs := [.int .i64 1, .int .i64 0, .int .i64 0, .int .i64 0, .int .i64 0, .int .i64 2, .int .i64 4]) [.int .i64 1, .int .i64 0, .int .i64 0, .int .i64 0, .int .i64 0, .int .i64 2, .int .i64 4] rfl rfl rfl (by exact Try.sizeOf93) rfl rfl rfl rfl rfl) ?_
  rintro _ _ rfl
  refine O.l0 (Lo.store 1 (vs := [.int .i64 1, .int .i64 0, .int .i64 0, .int .i64 0, .int .i64 2, .int .i64 5, .int .i64 4]) [.int .i64 1, .int .i64 0, .int .i64 0, .int .i64 0, .int .i64 2, .int .i64 5, .int .i64 4] rfl rfl rfl (by exact Try.sizeOf93) rfl rfl rfl rfl rfl) ?_
  rintro _ _ rfl
  refine O.l0 (Lo.store 0 (vs := [.int .i64 1, .int .i64 0, .int .i64 0, .int .i64 0, .int .i64 0, .int .i64 6, .int .i64 4]) [.int .i64 1, .int .i64 0, .int .i64 0, .int .i64 0, .int .i64 0, .int .i64 6, .int .i64 4] rfl rfl rfl (by exact Try.sizeOf93) rfl rfl rfl rfl rfl) ?_
  rintro _ _ rfl
  refine O.nil ?_
  refine J.seq ?_
  refine J.region ?_
  refine O.q (Qt.ld rfl (Cel.var 2 rfl) (o := 0) (off := 0) rfl (Cut.agg [.int .i64 1, .int .i64 0, .int .i64 0, .int .i64 0, .int .i64 0, .int .i64 2, .int .i64 4] Try.isAgg93 Try.sizeOf93 rfl rfl)) rfl ?_
  refine O.q (Qt.ld rfl (Cel.var 1 rfl) (o := 0) (off := 0) rfl (Cut.agg [.int .i64 1, .int .i64 0, .int .i64 0, .int .i64 0, .int .i64 2, .int .i64 5, .int .i64 4] Try.isAgg93 Try.sizeOf93 rfl rfl)) rfl ?_
  refine O.q (Qt.ld rfl (Cel.var 0 rfl) (o := 0) (off := 0) rfl (Cut.agg [.int .i64 1, .int .i64 0, .int .i64 0, .int .i64 0, .int .i64 0, .int .i64 6, .int .i64 4] Try.isAgg93 Try.sizeOf93 rfl rfl)) rfl ?_
  refine O.l (Lo.buildM (s := 7) Ev.cells [(⟨1, 0, 0, 0, 0, 2, 4⟩ : Ev), (⟨1, 0, 0, 0, 2, 5, 4⟩ : Ev), (⟨1, 0, 0, 0, 0, 6, 4⟩ : Ev)] [(0, .agg #[.int .i64 1, .int .i64 0, .int .i64 0, .int .i64 0, .int .i64 0, .int .i64 2, .int .i64 4]), (1, .agg #[.int .i64 1, .int .i64 0, .int .i64 0, .int .i64 0, .int .i64 2, .int .i64 5, .int .i64 4]), (2, .agg #[.int .i64 1, .int .i64 0, .int .i64 0, .int .i64 0, .int .i64 0, .int .i64 6, .int .i64 4])] (by exact Try.runUnderlying22) (by exact Try.sizeOf93) (by exact Try.zeroValue93) rfl rfl rfl (by kernel_rfl) rfl rfl) rfl ?_
  rintro V4 _ rfl
  refine O.l (Lo.call [.int .i64 0, V4] (by exact Try.call9) rfl (mono_wrong 0 V4 ([(⟨1, 0, 0, 0, 0, 2, 4⟩ : Ev), (⟨1, 0, 0, 0, 2, 5, 4⟩ : Ev), (⟨1, 0, 0, 0, 0, 6, 4⟩ : Ev)]) (by decide)) [] [0, 1, 2, 3] (by decide) rfl _ rfl (RoOk.of 0 rfl row_rd [] (by decide) rfl RoOk.nil)) rfl ?_
  rintro _ _ ⟨_, ⟨rfl, rfl⟩, rfl⟩
  refine O.p (Pu.move rfl) rfl ?_
  refine O.p (Pu.extract rfl rfl) rfl ?_
  refine O.p (Pu.extract rfl rfl) rfl ?_
  refine O.l (Lo.alloc [.int .i64 0, .int .i64 0, .int .i64 0, .int .i64 0] (by exact Try.zeroValue25) rfl) rfl ?_
  rintro _ _ ⟨g6, rfl, rfl⟩
  refine O.l0 (Lo.store 0 (vs := [.int .i64 (((Mono.wrong 0 ([(⟨1, 0, 0, 0, 0, 2, 4⟩ : Ev), (⟨1, 0, 0, 0, 2, 5, 4⟩ : Ev), (⟨1, 0, 0, 0, 0, 6, 4⟩ : Ev)])).1).frm), .int .i64 (((Mono.wrong 0 ([(⟨1, 0, 0, 0, 0, 2, 4⟩ : Ev), (⟨1, 0, 0, 0, 2, 5, 4⟩ : Ev), (⟨1, 0, 0, 0, 0, 6, 4⟩ : Ev)])).1).to), .int .i64 (((Mono.wrong 0 ([(⟨1, 0, 0, 0, 0, 2, 4⟩ : Ev), (⟨1, 0, 0, 0, 2, 5, 4⟩ : Ev), (⟨1, 0, 0, 0, 0, 6, 4⟩ : Ev)])).1).pass), .int .i64 (((Mono.wrong 0 ([(⟨1, 0, 0, 0, 0, 2, 4⟩ : Ev), (⟨1, 0, 0, 0, 2, 5, 4⟩ : Ev), (⟨1, 0, 0, 0, 0, 6, 4⟩ : Ev)])).1).stop)]) [.int .i64 (((Mono.wrong 0 ([(⟨1, 0, 0, 0, 0, 2, 4⟩ : Ev), (⟨1, 0, 0, 0, 2, 5, 4⟩ : Ev), (⟨1, 0, 0, 0, 0, 6, 4⟩ : Ev)])).1).frm), .int .i64 (((Mono.wrong 0 ([(⟨1, 0, 0, 0, 0, 2, 4⟩ : Ev), (⟨1, 0, 0, 0, 2, 5, 4⟩ : Ev), (⟨1, 0, 0, 0, 0, 6, 4⟩ : Ev)])).1).to), .int .i64 (((Mono.wrong 0 ([(⟨1, 0, 0, 0, 0, 2, 4⟩ : Ev), (⟨1, 0, 0, 0, 2, 5, 4⟩ : Ev), (⟨1, 0, 0, 0, 0, 6, 4⟩ : Ev)])).1).pass), .int .i64 (((Mono.wrong 0 ([(⟨1, 0, 0, 0, 0, 2, 4⟩ : Ev), (⟨1, 0, 0, 0, 2, 5, 4⟩ : Ev), (⟨1, 0, 0, 0, 0, 6, 4⟩ : Ev)])).1).stop)] rfl rfl rfl (by exact Try.sizeOf25) rfl rfl rfl rfl rfl) ?_
  rintro _ _ rfl
  refine O.p (Pu.assign rfl) rfl ?_
  refine O.nil ?_
  refine J.seq ?_
  refine J.region ?_
  refine O.q (Qt.ld rfl (Cel.var 4 rfl) (o := 0) (off := 0) rfl (Cut.agg [.int .i64 1, .int .i64 0, .int .i64 0, .int .i64 0, .int .i64 0, .int .i64 2, .int .i64 4] Try.isAgg93 Try.sizeOf93 rfl rfl)) rfl ?_
  refine O.q (Qt.ld rfl (Cel.var 3 rfl) (o := 0) (off := 0) rfl (Cut.agg [.int .i64 1, .int .i64 0, .int .i64 0, .int .i64 0, .int .i64 2, .int .i64 5, .int .i64 4] Try.isAgg93 Try.sizeOf93 rfl rfl)) rfl ?_
  refine O.p (Pu.build [(0, .int .i64 9)] [.int .i64 9, .int .i64 0, .int .i64 0, .int .i64 0, .int .i64 0, .int .i64 0, .int .i64 0] #[(0, 1), (1, 1), (2, 1), (3, 1), (4, 1), (5, 1), (6, 1)] Try.runUnderlying93 Try.zeroValue93 (places93 Try.underlying93) rfl (by kernel_rfl)) rfl ?_
  refine O.q (Qt.ld rfl (Cel.var 2 rfl) (o := 0) (off := 0) rfl (Cut.agg [.int .i64 1, .int .i64 0, .int .i64 0, .int .i64 0, .int .i64 0, .int .i64 6, .int .i64 4] Try.isAgg93 Try.sizeOf93 rfl rfl)) rfl ?_
  refine O.l (Lo.buildM (s := 7) Ev.cells [(⟨1, 0, 0, 0, 0, 2, 4⟩ : Ev), (⟨1, 0, 0, 0, 2, 5, 4⟩ : Ev), (⟨9, 0, 0, 0, 0, 0, 0⟩ : Ev), (⟨1, 0, 0, 0, 0, 6, 4⟩ : Ev)] [(0, .agg #[.int .i64 1, .int .i64 0, .int .i64 0, .int .i64 0, .int .i64 0, .int .i64 2, .int .i64 4]), (1, .agg #[.int .i64 1, .int .i64 0, .int .i64 0, .int .i64 0, .int .i64 2, .int .i64 5, .int .i64 4]), (2, .agg #[.int .i64 9, .int .i64 0, .int .i64 0, .int .i64 0, .int .i64 0, .int .i64 0, .int .i64 0]), (3, .agg #[.int .i64 1, .int .i64 0, .int .i64 0, .int .i64 0, .int .i64 0, .int .i64 6, .int .i64 4])] (by exact Try.runUnderlying22) (by exact Try.sizeOf93) (by exact Try.zeroValue93) rfl rfl rfl (by kernel_rfl) rfl rfl) rfl ?_
  rintro V7 _ rfl
  refine O.l (Lo.call [.int .i64 0, V7] (by exact Try.call9) rfl (mono_wrong 0 V7 ([(⟨1, 0, 0, 0, 0, 2, 4⟩ : Ev), (⟨1, 0, 0, 0, 2, 5, 4⟩ : Ev), (⟨9, 0, 0, 0, 0, 0, 0⟩ : Ev), (⟨1, 0, 0, 0, 0, 6, 4⟩ : Ev)]) (by decide)) [] [0, 1, 2, 3, 4, 5] (by decide) rfl _ rfl (RoOk.of 0 rfl row_rd [] (by decide) rfl RoOk.nil)) rfl ?_
  rintro _ _ ⟨_, ⟨rfl, rfl⟩, rfl⟩
  refine O.p (Pu.move rfl) rfl ?_
  refine O.p (Pu.extract rfl rfl) rfl ?_
  refine O.p (Pu.extract rfl rfl) rfl ?_
  refine O.l (Lo.alloc [.int .i64 0, .int .i64 0, .int .i64 0, .int .i64 0] (by exact Try.zeroValue25) rfl) rfl ?_
  rintro _ _ ⟨g9, rfl, rfl⟩
  refine O.l0 (Lo.store 0 (vs := [.int .i64 (((Mono.wrong 0 ([(⟨1, 0, 0, 0, 0, 2, 4⟩ : Ev), (⟨1, 0, 0, 0, 2, 5, 4⟩ : Ev), (⟨9, 0, 0, 0, 0, 0, 0⟩ : Ev), (⟨1, 0, 0, 0, 0, 6, 4⟩ : Ev)])).1).frm), .int .i64 (((Mono.wrong 0 ([(⟨1, 0, 0, 0, 0, 2, 4⟩ : Ev), (⟨1, 0, 0, 0, 2, 5, 4⟩ : Ev), (⟨9, 0, 0, 0, 0, 0, 0⟩ : Ev), (⟨1, 0, 0, 0, 0, 6, 4⟩ : Ev)])).1).to), .int .i64 (((Mono.wrong 0 ([(⟨1, 0, 0, 0, 0, 2, 4⟩ : Ev), (⟨1, 0, 0, 0, 2, 5, 4⟩ : Ev), (⟨9, 0, 0, 0, 0, 0, 0⟩ : Ev), (⟨1, 0, 0, 0, 0, 6, 4⟩ : Ev)])).1).pass), .int .i64 (((Mono.wrong 0 ([(⟨1, 0, 0, 0, 0, 2, 4⟩ : Ev), (⟨1, 0, 0, 0, 2, 5, 4⟩ : Ev), (⟨9, 0, 0, 0, 0, 0, 0⟩ : Ev), (⟨1, 0, 0, 0, 0, 6, 4⟩ : Ev)])).1).stop)]) [.int .i64 (((Mono.wrong 0 ([(⟨1, 0, 0, 0, 0, 2, 4⟩ : Ev), (⟨1, 0, 0, 0, 2, 5, 4⟩ : Ev), (⟨9, 0, 0, 0, 0, 0, 0⟩ : Ev), (⟨1, 0, 0, 0, 0, 6, 4⟩ : Ev)])).1).frm), .int .i64 (((Mono.wrong 0 ([(⟨1, 0, 0, 0, 0, 2, 4⟩ : Ev), (⟨1, 0, 0, 0, 2, 5, 4⟩ : Ev), (⟨9, 0, 0, 0, 0, 0, 0⟩ : Ev), (⟨1, 0, 0, 0, 0, 6, 4⟩ : Ev)])).1).to), .int .i64 (((Mono.wrong 0 ([(⟨1, 0, 0, 0, 0, 2, 4⟩ : Ev), (⟨1, 0, 0, 0, 2, 5, 4⟩ : Ev), (⟨9, 0, 0, 0, 0, 0, 0⟩ : Ev), (⟨1, 0, 0, 0, 0, 6, 4⟩ : Ev)])).1).pass), .int .i64 (((Mono.wrong 0 ([(⟨1, 0, 0, 0, 0, 2, 4⟩ : Ev), (⟨1, 0, 0, 0, 2, 5, 4⟩ : Ev), (⟨9, 0, 0, 0, 0, 0, 0⟩ : Ev), (⟨1, 0, 0, 0, 0, 6, 4⟩ : Ev)])).1).stop)] rfl rfl rfl (by exact Try.sizeOf25) rfl rfl rfl rfl rfl) ?_
  rintro _ _ rfl
  refine O.p (Pu.assign rfl) rfl ?_
  refine O.nil ?_
  refine J.seq ?_
  refine J.region ?_
  refine O.q (Qt.ld rfl (Cel.var 6 rfl) (o := 0) (off := 0) rfl (Cut.agg [.int .i64 1, .int .i64 0, .int .i64 0, .int .i64 0, .int .i64 0, .int .i64 2, .int .i64 4] Try.isAgg93 Try.sizeOf93 rfl rfl)) rfl ?_
  refine O.q (Qt.ld rfl (Cel.var 5 rfl) (o := 0) (off := 0) rfl (Cut.agg [.int .i64 1, .int .i64 0, .int .i64 0, .int .i64 0, .int .i64 2, .int .i64 5, .int .i64 4] Try.isAgg93 Try.sizeOf93 rfl rfl)) rfl ?_
  refine O.q (Qt.ld rfl (Cel.var 4 rfl) (o := 0) (off := 0) rfl (Cut.agg [.int .i64 1, .int .i64 0, .int .i64 0, .int .i64 0, .int .i64 0, .int .i64 6, .int .i64 4] Try.isAgg93 Try.sizeOf93 rfl rfl)) rfl ?_
  refine O.l (Lo.buildM (s := 7) Ev.cells [(⟨1, 0, 0, 0, 0, 2, 4⟩ : Ev), (⟨1, 0, 0, 0, 2, 5, 4⟩ : Ev), (⟨1, 0, 0, 0, 0, 6, 4⟩ : Ev)] [(0, .agg #[.int .i64 1, .int .i64 0, .int .i64 0, .int .i64 0, .int .i64 0, .int .i64 2, .int .i64 4]), (1, .agg #[.int .i64 1, .int .i64 0, .int .i64 0, .int .i64 0, .int .i64 2, .int .i64 5, .int .i64 4]), (2, .agg #[.int .i64 1, .int .i64 0, .int .i64 0, .int .i64 0, .int .i64 0, .int .i64 6, .int .i64 4])] (by exact Try.runUnderlying22) (by exact Try.sizeOf93) (by exact Try.zeroValue93) rfl rfl rfl (by kernel_rfl) rfl rfl) rfl ?_
  rintro V10 _ rfl
  refine O.l (Lo.call [.int .i64 0, V10] (by exact Try.call11) rfl (mono_passed 0 V10 ([(⟨1, 0, 0, 0, 0, 2, 4⟩ : Ev), (⟨1, 0, 0, 0, 2, 5, 4⟩ : Ev), (⟨1, 0, 0, 0, 0, 6, 4⟩ : Ev)]) (by decide)) [] [0, 1, 2, 3, 4, 5, 6, 7] (by decide) rfl _ rfl (RoOk.of 0 rfl row_rd [] (by decide) rfl RoOk.nil)) rfl ?_
  rintro _ _ ⟨_, ⟨rfl, rfl⟩, rfl⟩
  refine O.p (Pu.move rfl) rfl ?_
  refine O.p (Pu.extract rfl rfl) rfl ?_
  refine O.p (Pu.extract rfl rfl) rfl ?_
  refine O.p (Pu.assign rfl) rfl ?_
  refine O.p (Pu.assign rfl) rfl ?_
  refine O.nil ?_
  refine J.seq ?_
  refine J.region ?_
  refine O.q (Qt.ld rfl (Cel.var 3 rfl) (o := 0) (off := 0) rfl (Cut.agg [.int .i64 (((Mono.wrong 0 ([(⟨1, 0, 0, 0, 0, 2, 4⟩ : Ev), (⟨1, 0, 0, 0, 2, 5, 4⟩ : Ev), (⟨1, 0, 0, 0, 0, 6, 4⟩ : Ev)])).1).frm), .int .i64 (((Mono.wrong 0 ([(⟨1, 0, 0, 0, 0, 2, 4⟩ : Ev), (⟨1, 0, 0, 0, 2, 5, 4⟩ : Ev), (⟨1, 0, 0, 0, 0, 6, 4⟩ : Ev)])).1).to), .int .i64 (((Mono.wrong 0 ([(⟨1, 0, 0, 0, 0, 2, 4⟩ : Ev), (⟨1, 0, 0, 0, 2, 5, 4⟩ : Ev), (⟨1, 0, 0, 0, 0, 6, 4⟩ : Ev)])).1).pass), .int .i64 (((Mono.wrong 0 ([(⟨1, 0, 0, 0, 0, 2, 4⟩ : Ev), (⟨1, 0, 0, 0, 2, 5, 4⟩ : Ev), (⟨1, 0, 0, 0, 0, 6, 4⟩ : Ev)])).1).stop)] Try.isAgg25 Try.sizeOf25 rfl rfl)) rfl ?_
  refine O.p (Pu.build [(1, .int .i64 2), (2, .int .i64 6), (3, .int .i64 5)] [.int .i64 0, .int .i64 2, .int .i64 6, .int .i64 5] #[(0, 1), (1, 1), (2, 1), (3, 1)] Try.runUnderlying25 Try.zeroValue25 (places25 Try.underlying25) rfl (by kernel_rfl)) rfl ?_
  refine O.p (Pu.eqlI [((Mono.wrong 0 ([(⟨1, 0, 0, 0, 0, 2, 4⟩ : Ev), (⟨1, 0, 0, 0, 2, 5, 4⟩ : Ev), (⟨1, 0, 0, 0, 0, 6, 4⟩ : Ev)])).1).frm, ((Mono.wrong 0 ([(⟨1, 0, 0, 0, 0, 2, 4⟩ : Ev), (⟨1, 0, 0, 0, 2, 5, 4⟩ : Ev), (⟨1, 0, 0, 0, 0, 6, 4⟩ : Ev)])).1).to, ((Mono.wrong 0 ([(⟨1, 0, 0, 0, 0, 2, 4⟩ : Ev), (⟨1, 0, 0, 0, 2, 5, 4⟩ : Ev), (⟨1, 0, 0, 0, 0, 6, 4⟩ : Ev)])).1).pass, ((Mono.wrong 0 ([(⟨1, 0, 0, 0, 0, 2, 4⟩ : Ev), (⟨1, 0, 0, 0, 2, 5, 4⟩ : Ev), (⟨1, 0, 0, 0, 0, 6, 4⟩ : Ev)])).1).stop] [0, 2, 6, 5] Try.underlying25 Try.stoodInHeld25 Try.eqGuardType25 (fint25 Try.underlying25) rfl rfl rfl rfl) rfl ?_
  refine O.p (Pu.move rfl) rfl ?_
  refine O.gq (t := 41) rfl rfl (by decide) rfl (Pu.qt (Pu.move rfl)) rfl ?_
  refine O.p (Pu.pickT rfl (by decide) rfl) rfl ?_
  refine O.p (Pu.move rfl) rfl ?_
  refine O.gq (t := 44) rfl rfl (by decide) rfl (Pu.qt (Pu.move rfl)) rfl ?_
  refine O.gq (t := 44) rfl rfl (by decide) rfl (Pu.qt (Pu.not rfl)) rfl ?_
  refine O.p (Pu.pickT rfl (by decide) rfl) rfl ?_
  refine O.p (Pu.move rfl) rfl ?_
  refine O.gq (t := 48) rfl rfl (by decide) rfl (Pu.qt (Pu.move rfl)) rfl ?_
  refine O.gq (t := 48) rfl rfl (by decide) rfl (Pu.qt (Pu.eql rfl rfl)) rfl ?_
  refine O.p (Pu.pickT rfl (by decide) rfl) rfl ?_
  refine O.p (Pu.move rfl) rfl ?_
  refine O.gq (t := 52) rfl rfl (by decide) rfl (Pu.qt (Pu.move rfl)) rfl ?_
  refine O.gq (t := 52) rfl rfl (by decide) rfl (Pu.qt (Pu.eql rfl rfl)) rfl ?_
  refine O.p (Pu.pickT rfl (by decide) rfl) rfl ?_
  refine O.p (Pu.assign rfl) rfl ?_
  refine O.nil ?_
  exact J.ret (Fin.ret (rs := [.tmp 0]) rfl [_] ⟨rfl, trivial⟩ [] (by decide) [] rfl ⟨rfl, rfl⟩)

set_option maxRecDepth 100000 in
theorem law42_monoRuns (lv : Value) (l : List Ev) (s : Int) : Tri Try.prog 3 #[lv, .int .i64 s] [rd lv 7 (l.map Ev.cells)] [] (fun v L' => v = .bool true ∧ L' = []) := by
  refine Tri.enter (args := [lv, .int .i64 s]) (body := _) 93 Try.func3 rfl Try.ntmps3 rfl ?_
  intro w0
  refine J.seq ?_
  refine J.region ?_
  refine O.p (Pu.assign rfl) rfl ?_
  refine O.nil ?_
  refine J.seq ?_
  refine J.seq ?_
  refine J.region ?_
  refine O.p (Pu.move rfl) rfl ?_
  refine O.q (Qt.lenM Try.runUnderlying22 rfl (Src.ro 0 rfl)) rfl ?_
  refine O.p (Pu.gtr rfl rfl) rfl ?_
  refine O.nil ?_
  refine J.cond rfl (fun h1 => ?_) (fun h1 => ?_)
  ·
    have p2 := of_decide_eq_true h1
    refine J.seq ?_
    refine J.region ?_
    refine O.l (Lo.call [] (by exact Try.call8) rfl law42_awake [] [] (by decide) rfl _ rfl RoOk.nil) rfl ?_
    rintro _ _ ⟨_, ⟨rfl, rfl⟩, rfl⟩
    refine O.p (Pu.assign rfl) rfl ?_
    refine O.nil ?_
    exact J.ret (Fin.ret (rs := [.tmp 4]) rfl [_] ⟨rfl, trivial⟩ [] (by decide) [] rfl ⟨rfl, rfl⟩)
  ·
    have p4 := of_decide_eq_false h1
    refine J.skip ?_
    refine J.seq ?_
    refine J.region ?_
    refine O.p (Pu.move rfl) rfl ?_
    refine O.p (Pu.move rfl) rfl ?_
    refine O.l (Lo.call [.int .i64 s, lv] (by exact Try.call9) rfl (mono_wrong s lv l (by have hrl := Mono.runs_len s l; omega)) [] [] (by decide) rfl _ rfl (RoOk.ro 0 rfl [] rfl RoOk.nil)) rfl ?_
    rintro _ _ ⟨_, ⟨rfl, rfl⟩, rfl⟩
    refine O.p (Pu.move rfl) rfl ?_
    refine O.p (Pu.extract rfl rfl) rfl ?_
    refine O.p (Pu.extract rfl rfl) rfl ?_
    refine O.l (Lo.alloc [.int .i64 0, .int .i64 0, .int .i64 0, .int .i64 0] (by exact Try.zeroValue25) rfl) rfl ?_
    rintro _ _ ⟨g6, rfl, rfl⟩
    refine O.l0 (Lo.store 0 (vs := [.int .i64 (((Mono.wrong s l).1).frm), .int .i64 (((Mono.wrong s l).1).to), .int .i64 (((Mono.wrong s l).1).pass), .int .i64 (((Mono.wrong s l).1).stop)]) [.int .i64 (((Mono.wrong s l).1).frm), .int .i64 (((Mono.wrong s l).1).to), .int .i64 (((Mono.wrong s l).1).pass), .int .i64 (((Mono.wrong s l).1).stop)] rfl rfl rfl (by exact Try.sizeOf25) rfl rfl rfl rfl rfl) ?_
    rintro _ _ rfl
    refine O.p (Pu.assign rfl) rfl ?_
    refine O.nil ?_
    refine J.seq ?_
    refine J.region ?_
    refine O.p (Pu.move rfl) rfl ?_
    refine O.p (Pu.move rfl) rfl ?_
    refine O.l (Lo.call [.int .i64 s, lv] (by exact Try.call10) rfl (r42_wrong s lv l (by have hrl := Mono.runs_len s l; omega)) [] [0] (by decide) rfl _ rfl (RoOk.ro 0 rfl [] rfl RoOk.nil)) rfl ?_
    rintro _ _ ⟨_, ⟨rfl, rfl⟩, rfl⟩
    refine O.p (Pu.move rfl) rfl ?_
    refine O.p (Pu.extract rfl rfl) rfl ?_
    refine O.p (Pu.extract rfl rfl) rfl ?_
    refine O.l (Lo.alloc [.int .i64 0, .int .i64 0, .int .i64 0, .int .i64 0] (by exact Try.zeroValue25) rfl) rfl ?_
    rintro _ _ ⟨g8, rfl, rfl⟩
    refine O.l0 (Lo.store 0 (vs := [.int .i64 (((Mono.wrong s l).1).frm), .int .i64 (((Mono.wrong s l).1).to), .int .i64 (((Mono.wrong s l).1).pass), .int .i64 (((Mono.wrong s l).1).stop)]) [.int .i64 (((Mono.wrong s l).1).frm), .int .i64 (((Mono.wrong s l).1).to), .int .i64 (((Mono.wrong s l).1).pass), .int .i64 (((Mono.wrong s l).1).stop)] rfl rfl rfl (by exact Try.sizeOf25) rfl rfl rfl rfl rfl) ?_
    rintro _ _ rfl
    refine O.p (Pu.assign rfl) rfl ?_
    refine O.nil ?_
    refine J.seq ?_
    refine J.region ?_
    refine O.p (Pu.move rfl) rfl ?_
    refine O.p (Pu.move rfl) rfl ?_
    refine O.l (Lo.call [.int .i64 s, lv] (by exact Try.call11) rfl (mono_passed s lv l (by have hrl := Mono.runs_len s l; omega)) [] [0, 1] (by decide) rfl _ rfl (RoOk.ro 0 rfl [] rfl RoOk.nil)) rfl ?_
    rintro _ _ ⟨_, ⟨rfl, rfl⟩, rfl⟩
    refine O.p (Pu.move rfl) rfl ?_
    refine O.p (Pu.extract rfl rfl) rfl ?_
    refine O.p (Pu.extract rfl rfl) rfl ?_
    refine O.p (Pu.assign rfl) rfl ?_
    refine O.p (Pu.assign rfl) rfl ?_
    refine O.nil ?_
    refine J.seq ?_
    refine J.region ?_
    refine O.p (Pu.move rfl) rfl ?_
    refine O.p (Pu.move rfl) rfl ?_
    refine O.l (Lo.call [.int .i64 s, lv] (by exact Try.call12) rfl (mono_least s lv l (by have hrl := Mono.runs_len s l; omega)) [] [0, 1] (by decide) rfl _ rfl (RoOk.ro 0 rfl [] rfl RoOk.nil)) rfl ?_
    rintro _ _ ⟨_, ⟨rfl, rfl⟩, rfl⟩
    refine O.p (Pu.move rfl) rfl ?_
    refine O.p (Pu.extract rfl rfl) rfl ?_
    refine O.p (Pu.extract rfl rfl) rfl ?_
    refine O.p (Pu.assign rfl) rfl ?_
    refine O.p (Pu.assign rfl) rfl ?_
    refine O.nil ?_
    refine J.seq ?_
    refine J.region ?_
    refine O.p (Pu.move rfl) rfl ?_
    refine O.p (Pu.move rfl) rfl ?_
    refine O.l (Lo.call [.int .i64 s, lv] (by exact Try.call13) rfl (r42_tell s lv l (by have hrl := Mono.runs_len s l; omega)) [] [0, 1] (by decide) rfl _ rfl (RoOk.ro 0 rfl [] rfl RoOk.nil)) rfl ?_
    rintro _ _ ⟨_, ⟨rfl, rfl⟩, rfl⟩
    refine O.p (Pu.move rfl) rfl ?_
    refine O.p (Pu.extract rfl rfl) rfl ?_
    refine O.p (Pu.extract rfl rfl) rfl ?_
    refine O.p (Pu.extract rfl rfl) rfl ?_
    refine O.p (Pu.extract rfl rfl) rfl ?_
    refine O.p (Pu.assign rfl) rfl ?_
    refine O.p (Pu.assign rfl) rfl ?_
    refine O.p (Pu.assign rfl) rfl ?_
    refine O.p (Pu.assign rfl) rfl ?_
    refine O.nil ?_
    refine J.seq ?_
    refine J.region ?_
    refine O.p (Pu.move rfl) rfl ?_
    refine O.p (Pu.move rfl) rfl ?_
    refine O.l (Lo.call [.int .i64 s, lv] (by exact Try.call15) rfl (mono_runs s lv l (by have hrl := Mono.runs_len s l; omega)) [] [0, 1] (by decide) rfl _ rfl (RoOk.ro 0 rfl [] rfl RoOk.nil)) rfl ?_
    rintro v12 _ ⟨_, rfl, rfl⟩
    refine O.p (Pu.move rfl) rfl ?_
    refine O.p (Pu.move rfl) rfl ?_
    refine O.l (Lo.call [.int .i64 s, lv] (by exact Try.call16) rfl (r42_runs s lv l (by have hrl := Mono.runs_len s l; omega)) [] [0, 1, 2] (by decide) rfl _ rfl (RoOk.ro 0 rfl [] rfl RoOk.nil)) rfl ?_
    rintro v13 _ ⟨_, rfl, rfl⟩
    refine O.l (Lo.call [v12, v13] (by exact Try.call14) rfl (r42_same v12 v13 (Mono.runs s l) (by have hrl := Mono.runs_len s l; omega)) [] [0, 1, 2, 3] (by decide) rfl _ rfl (RoOk.of 1 rfl row_rd [] (by decide) rfl (RoOk.of 0 rfl row_rd [] (by decide) rfl RoOk.nil))) rfl ?_
    rintro _ _ ⟨_, ⟨rfl, rfl⟩, rfl⟩
    refine O.p (Pu.move rfl) rfl ?_
    refine O.gq (t := 60) rfl rfl rfl rfl (Qt.ld rfl (Cel.var 3 rfl) (o := 0) (off := 0) rfl (Cut.agg [.int .i64 (((Mono.wrong s l).1).frm), .int .i64 (((Mono.wrong s l).1).to), .int .i64 (((Mono.wrong s l).1).pass), .int .i64 (((Mono.wrong s l).1).stop)] Try.isAgg25 Try.sizeOf25 rfl rfl)) rfl ?_
    refine O.gq (t := 60) rfl rfl rfl rfl (Qt.ld rfl (Cel.var 2 rfl) (o := 0) (off := 0) rfl (Cut.agg [.int .i64 (((Mono.wrong s l).1).frm), .int .i64 (((Mono.wrong s l).1).to), .int .i64 (((Mono.wrong s l).1).pass), .int .i64 (((Mono.wrong s l).1).stop)] Try.isAgg25 Try.sizeOf25 rfl rfl)) rfl ?_
    refine O.gq (t := 60) rfl rfl rfl rfl (Pu.qt (Pu.eqlI [((Mono.wrong s l).1).frm, ((Mono.wrong s l).1).to, ((Mono.wrong s l).1).pass, ((Mono.wrong s l).1).stop] [((Mono.wrong s l).1).frm, ((Mono.wrong s l).1).to, ((Mono.wrong s l).1).pass, ((Mono.wrong s l).1).stop] Try.underlying25 Try.stoodInHeld25 Try.eqGuardType25 (fint25 Try.underlying25) rfl rfl rfl rfl)) rfl ?_
    refine O.p (Pu.pickT rfl rfl rfl) rfl ?_
    refine O.p (Pu.move rfl) rfl ?_
    refine O.gq (t := 65) rfl rfl (by simp) rfl (Pu.qt (Pu.move rfl)) rfl ?_
    refine O.gq (t := 65) rfl rfl (by simp) rfl (Pu.qt (Pu.move rfl)) rfl ?_
    refine O.gq (t := 65) rfl rfl (by simp) rfl (Pu.qt (Pu.beql Try.underlying4 rfl rfl)) rfl ?_
    refine O.p (Pu.pickT rfl (by simp) rfl) rfl ?_
    refine O.p (Pu.move rfl) rfl ?_
    refine O.gq (t := 70) rfl rfl (by simp) rfl (Pu.qt (Pu.move rfl)) rfl ?_
    refine O.gq (t := 70) rfl rfl (by simp) rfl (Pu.qt (Pu.move rfl)) rfl ?_
    refine O.gq (t := 70) rfl rfl (by simp) rfl (Pu.qt (Pu.eql rfl rfl)) rfl ?_
    refine O.p (Pu.pickT rfl (by simp) rfl) rfl ?_
    refine O.p (Pu.move rfl) rfl ?_
    refine O.gq (t := 75) rfl rfl (by simp) rfl (Pu.qt (Pu.move rfl)) rfl ?_
    refine O.gq (t := 75) rfl rfl (by simp) rfl (Pu.qt (Pu.move rfl)) rfl ?_
    refine O.gq (t := 75) rfl rfl (by simp) rfl (Pu.qt (Pu.eql rfl rfl)) rfl ?_
    refine O.p (Pu.pickT rfl (by simp) rfl) rfl ?_
    refine O.p (Pu.move rfl) rfl ?_
    refine O.gq (t := 80) rfl rfl (by simp) rfl (Pu.qt (Pu.move rfl)) rfl ?_
    refine O.gq (t := 80) rfl rfl (by simp) rfl (Pu.qt (Pu.move rfl)) rfl ?_
    refine O.gq (t := 80) rfl rfl (by simp) rfl (Pu.qt (Pu.eql rfl rfl)) rfl ?_
    refine O.p (Pu.pickT rfl (by simp) rfl) rfl ?_
    refine O.p (Pu.move rfl) rfl ?_
    refine O.gq (t := 85) rfl rfl (by simp) rfl (Pu.qt (Pu.move rfl)) rfl ?_
    refine O.gq (t := 85) rfl rfl (by simp) rfl (Pu.qt (Pu.move rfl)) rfl ?_
    refine O.gq (t := 85) rfl rfl (by simp) rfl (Pu.qt (Pu.beql Try.underlying4 rfl rfl)) rfl ?_
    refine O.p (Pu.pickT rfl (by simp) rfl) rfl ?_
    refine O.p (Pu.move rfl) rfl ?_
    refine O.gl (t := 90) rfl rfl (by simp) rfl (Lo.call [] (by exact Try.call8) rfl law42_awake [] [0, 1, 2, 3] (by decide) rfl _ rfl RoOk.nil) rfl ?_
    rintro _ _ ⟨_, ⟨rfl, rfl⟩, rfl⟩
    refine O.p (Pu.pickT rfl (by simp) rfl) rfl ?_
    refine O.p (Pu.assign rfl) rfl ?_
    refine O.nil ?_
    exact J.ret (Fin.ret (rs := [.tmp 4]) rfl [_] ⟨rfl, trivial⟩ [] (by decide) [] rfl ⟨rfl, rfl⟩)

end Go.Proofs.Ytghhjhjpccipaaa
