/-
  Walks, printed by a program of mine (lk.py): each function meets its contract.
-/
import Derived.KernelRfl
import Derived.Test.YtghhjhjpccipaaaDW5
namespace Go.Proofs.Ytghhjhjpccipaaa
open Go Go.LK
set_option linter.unusedSimpArgs false

set_option maxRecDepth 100000 in
theorem law44_awake  : Tri Try.prog 17 #[] [] [] (fun v L' => v = .bool true ∧ L' = []) := by
  refine Tri.enter (args := []) (body := _) 57 Try.func17 rfl Try.ntmps17 rfl ?_
  intro w0
  refine J.seq ?_
  refine J.region ?_
  refine O.p (Pu.assign rfl) rfl ?_
  refine O.nil ?_
  refine J.seq ?_
  refine J.region ?_
  refine O.p (Pu.build [(0, .int .i64 9), (5, .int .i64 7), (6, .int .i64 1), (4, .int .i64 1)] [.int .i64 9, .int .i64 0, .int .i64 0, .int .i64 0, .int .i64 1, .int .i64 7, .int .i64 1] #[(0, 1), (1, 1), (2, 1), (3, 1), (4, 1), (5, 1), (6, 1)] Try.runUnderlying93 Try.zeroValue93 (places93 Try.underlying93) rfl (by kernel_rfl)) rfl ?_
  refine O.p (Pu.build [(0, .int .i64 9), (5, .int .i64 8), (6, .int .i64 1), (4, .int .i64 2)] [.int .i64 9, .int .i64 0, .int .i64 0, .int .i64 0, .int .i64 2, .int .i64 8, .int .i64 1] #[(0, 1), (1, 1), (2, 1), (3, 1), (4, 1), (5, 1), (6, 1)] Try.runUnderlying93 Try.zeroValue93 (places93 Try.underlying93) rfl (by kernel_rfl)) rfl ?_
  refine O.l (Lo.alloc [.int .i64 0, .int .i64 0, .int .i64 0, .int .i64 0, .int .i64 0, .int .i64 0, .int .i64 0] (by exact Try.zeroValue93) rfl) rfl ?_
  rintro _ _ ⟨g1, rfl, rfl⟩
  refine O.l (Lo.alloc [.int .i64 0, .int .i64 0, .int .i64 0, .int .i64 0, .int .i64 0, .int .i64 0, .int .i64 0] (by exact Try.zeroValue93) rfl) rfl ?_
  rintro _ _ ⟨g2, rfl, rfl⟩
  refine O.l0 (Lo.store 1 (vs := [.int .i64 9, .int .i64 0, .int .i64 0, .int .i64 0, .int .i64 1, .int .i64 7, .int .i64 1]) [.int .i64 9, .int .i64 0, .int .i64 0, .int .i64 0, .int .i64 1, .int .i64 7, .int .i64 1] rfl rfl rfl (by exact Try.sizeOf93) rfl rfl rfl rfl rfl) ?_
  rintro _ _ rfl
  refine O.l0 (Lo.store 0 (vs := [.int .i64 9, .int .i64 0, .int .i64 0, .int .i64 0, .int .i64 2, .int .i64 8, .int .i64 1]) [.int .i64 9, .int .i64 0, .int .i64 0, .int .i64 0, .int .i64 2, .int .i64 8, .int .i64 1] rfl rfl rfl (by exact Try.sizeOf93) rfl rfl rfl rfl rfl) ?_
  rintro _ _ rfl
  refine O.nil ?_
  refine J.seq ?_
  refine J.region ?_
  refine O.p (Pu.build [(5, .int .i64 3), (6, .int .i64 1)] [.int .i64 0, .int .i64 0, .int .i64 0, .int .i64 0, .int .i64 0, .int .i64 3, .int .i64 1] #[(0, 1), (1, 1), (2, 1), (3, 1), (4, 1), (5, 1), (6, 1)] Try.runUnderlying42 Try.zeroValue42 (places42 Try.underlying42) rfl (by kernel_rfl)) rfl ?_
  refine O.q (Qt.ld rfl (Cel.var 1 rfl) (o := 0) (off := 0) rfl (Cut.agg [.int .i64 9, .int .i64 0, .int .i64 0, .int .i64 0, .int .i64 1, .int .i64 7, .int .i64 1] Try.isAgg93 Try.sizeOf93 rfl rfl)) rfl ?_
  refine O.q (Qt.ld rfl (Cel.var 0 rfl) (o := 0) (off := 0) rfl (Cut.agg [.int .i64 9, .int .i64 0, .int .i64 0, .int .i64 0, .int .i64 2, .int .i64 8, .int .i64 1] Try.isAgg93 Try.sizeOf93 rfl rfl)) rfl ?_
  refine O.l (Lo.buildM (s := 7) Ev.cells [(⟨9, 0, 0, 0, 1, 7, 1⟩ : Ev), (⟨9, 0, 0, 0, 2, 8, 1⟩ : Ev)] [(0, .agg #[.int .i64 9, .int .i64 0, .int .i64 0, .int .i64 0, .int .i64 1, .int .i64 7, .int .i64 1]), (1, .agg #[.int .i64 9, .int .i64 0, .int .i64 0, .int .i64 0, .int .i64 2, .int .i64 8, .int .i64 1])] (by exact Try.runUnderlying22) (by exact Try.sizeOf93) (by exact Try.zeroValue93) rfl rfl rfl (by kernel_rfl) rfl rfl) rfl ?_
  rintro V3 _ rfl
  refine O.l (Lo.call [.int .i64 0, .int .i64 8, .int .i64 1, .agg #[.int .i64 0, .int .i64 0, .int .i64 0, .int .i64 0, .int .i64 0, .int .i64 3, .int .i64 1], V3] (by exact Try.call18) rfl (dw_Wrong 0 8 1 (⟨0, 0, 0, 0, 0, 3, 1⟩ : Kn) V3 ([(⟨9, 0, 0, 0, 1, 7, 1⟩ : Ev), (⟨9, 0, 0, 0, 2, 8, 1⟩ : Ev)]) (by decide)) [] [0, 1, 2] (by decide) rfl _ rfl (RoOk.of 0 rfl row_rd [] (by decide) rfl RoOk.nil)) rfl ?_
  rintro _ _ ⟨_, ⟨rfl, rfl⟩, rfl⟩
  refine O.p (Pu.move rfl) rfl ?_
  refine O.p (Pu.extract rfl rfl) rfl ?_
  refine O.p (Pu.extract rfl rfl) rfl ?_
  refine O.l (Lo.alloc [.int .i64 0, .int .i64 0, .int .i64 0] (by exact Try.zeroValue44) rfl) rfl ?_
  rintro _ _ ⟨g5, rfl, rfl⟩
  refine O.l0 (Lo.store 0 (vs := [.int .i64 (((Dw.ws 0 8 1 (⟨0, 0, 0, 0, 0, 3, 1⟩ : Kn) ([(⟨9, 0, 0, 0, 1, 7, 1⟩ : Ev), (⟨9, 0, 0, 0, 2, 8, 1⟩ : Ev)])).fst).at_), .int .i64 (((Dw.ws 0 8 1 (⟨0, 0, 0, 0, 0, 3, 1⟩ : Kn) ([(⟨9, 0, 0, 0, 1, 7, 1⟩ : Ev), (⟨9, 0, 0, 0, 2, 8, 1⟩ : Ev)])).fst).way), .int .i64 (((Dw.ws 0 8 1 (⟨0, 0, 0, 0, 0, 3, 1⟩ : Kn) ([(⟨9, 0, 0, 0, 1, 7, 1⟩ : Ev), (⟨9, 0, 0, 0, 2, 8, 1⟩ : Ev)])).fst).tier)]) [.int .i64 (((Dw.ws 0 8 1 (⟨0, 0, 0, 0, 0, 3, 1⟩ : Kn) ([(⟨9, 0, 0, 0, 1, 7, 1⟩ : Ev), (⟨9, 0, 0, 0, 2, 8, 1⟩ : Ev)])).fst).at_), .int .i64 (((Dw.ws 0 8 1 (⟨0, 0, 0, 0, 0, 3, 1⟩ : Kn) ([(⟨9, 0, 0, 0, 1, 7, 1⟩ : Ev), (⟨9, 0, 0, 0, 2, 8, 1⟩ : Ev)])).fst).way), .int .i64 (((Dw.ws 0 8 1 (⟨0, 0, 0, 0, 0, 3, 1⟩ : Kn) ([(⟨9, 0, 0, 0, 1, 7, 1⟩ : Ev), (⟨9, 0, 0, 0, 2, 8, 1⟩ : Ev)])).fst).tier)] rfl rfl rfl (by exact Try.sizeOf44) rfl rfl rfl rfl rfl) ?_
  rintro _ _ rfl
  refine O.p (Pu.assign rfl) rfl ?_
  refine O.nil ?_
  refine J.seq ?_
  refine J.region ?_
  refine O.p (Pu.build [(5, .int .i64 1), (6, .int .i64 1)] [.int .i64 0, .int .i64 0, .int .i64 0, .int .i64 0, .int .i64 0, .int .i64 1, .int .i64 1] #[(0, 1), (1, 1), (2, 1), (3, 1), (4, 1), (5, 1), (6, 1)] Try.runUnderlying42 Try.zeroValue42 (places42 Try.underlying42) rfl (by kernel_rfl)) rfl ?_
  refine O.q (Qt.ld rfl (Cel.var 3 rfl) (o := 0) (off := 0) rfl (Cut.agg [.int .i64 9, .int .i64 0, .int .i64 0, .int .i64 0, .int .i64 1, .int .i64 7, .int .i64 1] Try.isAgg93 Try.sizeOf93 rfl rfl)) rfl ?_
  refine O.q (Qt.ld rfl (Cel.var 2 rfl) (o := 0) (off := 0) rfl (Cut.agg [.int .i64 9, .int .i64 0, .int .i64 0, .int .i64 0, .int .i64 2, .int .i64 8, .int .i64 1] Try.isAgg93 Try.sizeOf93 rfl rfl)) rfl ?_
  refine O.l (Lo.buildM (s := 7) Ev.cells [(⟨9, 0, 0, 0, 1, 7, 1⟩ : Ev), (⟨9, 0, 0, 0, 2, 8, 1⟩ : Ev)] [(0, .agg #[.int .i64 9, .int .i64 0, .int .i64 0, .int .i64 0, .int .i64 1, .int .i64 7, .int .i64 1]), (1, .agg #[.int .i64 9, .int .i64 0, .int .i64 0, .int .i64 0, .int .i64 2, .int .i64 8, .int .i64 1])] (by exact Try.runUnderlying22) (by exact Try.sizeOf93) (by exact Try.zeroValue93) rfl rfl rfl (by kernel_rfl) rfl rfl) rfl ?_
  rintro V6 _ rfl
  refine O.l (Lo.call [.int .i64 0, .int .i64 8, .int .i64 1, .agg #[.int .i64 0, .int .i64 0, .int .i64 0, .int .i64 0, .int .i64 0, .int .i64 1, .int .i64 1], V6] (by exact Try.call18) rfl (dw_Wrong 0 8 1 (⟨0, 0, 0, 0, 0, 1, 1⟩ : Kn) V6 ([(⟨9, 0, 0, 0, 1, 7, 1⟩ : Ev), (⟨9, 0, 0, 0, 2, 8, 1⟩ : Ev)]) (by decide)) [] [0, 1, 2, 3, 4] (by decide) rfl _ rfl (RoOk.of 0 rfl row_rd [] (by decide) rfl RoOk.nil)) rfl ?_
  rintro _ _ ⟨_, ⟨rfl, rfl⟩, rfl⟩
  refine O.p (Pu.move rfl) rfl ?_
  refine O.p (Pu.extract rfl rfl) rfl ?_
  refine O.p (Pu.extract rfl rfl) rfl ?_
  refine O.l (Lo.alloc [.int .i64 0, .int .i64 0, .int .i64 0] (by exact Try.zeroValue44) rfl) rfl ?_
  rintro _ _ ⟨g8, rfl, rfl⟩
  refine O.l0 (Lo.store 0 (vs := [.int .i64 (((Dw.ws 0 8 1 (⟨0, 0, 0, 0, 0, 1, 1⟩ : Kn) ([(⟨9, 0, 0, 0, 1, 7, 1⟩ : Ev), (⟨9, 0, 0, 0, 2, 8, 1⟩ : Ev)])).fst).at_), .int .i64 (((Dw.ws 0 8 1 (⟨0, 0, 0, 0, 0, 1, 1⟩ : Kn) ([(⟨9, 0, 0, 0, 1, 7, 1⟩ : Ev), (⟨9, 0, 0, 0, 2, 8, 1⟩ : Ev)])).fst).way), .int .i64 (((Dw.ws 0 8 1 (⟨0, 0, 0, 0, 0, 1, 1⟩ : Kn) ([(⟨9, 0, 0, 0, 1, 7, 1⟩ : Ev), (⟨9, 0, 0, 0, 2, 8, 1⟩ : Ev)])).fst).tier)]) [.int .i64 (((Dw.ws 0 8 1 (⟨0, 0, 0, 0, 0, 1, 1⟩ : Kn) ([(⟨9, 0, 0, 0, 1, 7, 1⟩ : Ev), (⟨9, 0, 0, 0, 2, 8, 1⟩ : Ev)])).fst).at_), .int .i64 (((Dw.ws 0 8 1 (⟨0, 0, 0, 0, 0, 1, 1⟩ : Kn) ([(⟨9, 0, 0, 0, 1, 7, 1⟩ : Ev), (⟨9, 0, 0, 0, 2, 8, 1⟩ : Ev)])).fst).way), .int .i64 (((Dw.ws 0 8 1 (⟨0, 0, 0, 0, 0, 1, 1⟩ : Kn) ([(⟨9, 0, 0, 0, 1, 7, 1⟩ : Ev), (⟨9, 0, 0, 0, 2, 8, 1⟩ : Ev)])).fst).tier)] rfl rfl rfl (by exact Try.sizeOf44) rfl rfl rfl rfl rfl) ?_
  rintro _ _ rfl
  refine O.p (Pu.assign rfl) rfl ?_
  refine O.nil ?_
  refine J.seq ?_
  refine J.region ?_
  refine O.q (Qt.ld rfl (Cel.var 2 rfl) (o := 0) (off := 0) rfl (Cut.agg [.int .i64 (((Dw.ws 0 8 1 (⟨0, 0, 0, 0, 0, 3, 1⟩ : Kn) ([(⟨9, 0, 0, 0, 1, 7, 1⟩ : Ev), (⟨9, 0, 0, 0, 2, 8, 1⟩ : Ev)])).fst).at_), .int .i64 (((Dw.ws 0 8 1 (⟨0, 0, 0, 0, 0, 3, 1⟩ : Kn) ([(⟨9, 0, 0, 0, 1, 7, 1⟩ : Ev), (⟨9, 0, 0, 0, 2, 8, 1⟩ : Ev)])).fst).way), .int .i64 (((Dw.ws 0 8 1 (⟨0, 0, 0, 0, 0, 3, 1⟩ : Kn) ([(⟨9, 0, 0, 0, 1, 7, 1⟩ : Ev), (⟨9, 0, 0, 0, 2, 8, 1⟩ : Ev)])).fst).tier)] Try.isAgg44 Try.sizeOf44 rfl rfl)) rfl ?_
  refine O.p (Pu.build [(0, .int .i64 1), (1, .int .i64 1)] [.int .i64 1, .int .i64 1, .int .i64 0] #[(0, 1), (1, 1), (2, 1)] Try.runUnderlying44 Try.zeroValue44 (places44 Try.underlying44) rfl (by kernel_rfl)) rfl ?_
  refine O.p (Pu.eqlI [((Dw.ws 0 8 1 (⟨0, 0, 0, 0, 0, 3, 1⟩ : Kn) ([(⟨9, 0, 0, 0, 1, 7, 1⟩ : Ev), (⟨9, 0, 0, 0, 2, 8, 1⟩ : Ev)])).fst).at_, ((Dw.ws 0 8 1 (⟨0, 0, 0, 0, 0, 3, 1⟩ : Kn) ([(⟨9, 0, 0, 0, 1, 7, 1⟩ : Ev), (⟨9, 0, 0, 0, 2, 8, 1⟩ : Ev)])).fst).way, ((Dw.ws 0 8 1 (⟨0, 0, 0, 0, 0, 3, 1⟩ : Kn) ([(⟨9, 0, 0, 0, 1, 7, 1⟩ : Ev), (⟨9, 0, 0, 0, 2, 8, 1⟩ : Ev)])).fst).tier] [1, 1, 0] Try.underlying44 Try.stoodInHeld44 Try.eqGuardType44 (fint44 Try.underlying44) rfl rfl rfl rfl) rfl ?_
  refine O.p (Pu.move rfl) rfl ?_
  refine O.gq (t := 28) rfl rfl (by decide) rfl (Pu.qt (Pu.move rfl)) rfl ?_
  refine O.p (Pu.pickT rfl (by decide) rfl) rfl ?_
  refine O.p (Pu.move rfl) rfl ?_
  refine O.gq (t := 31) rfl rfl (by decide) rfl (Pu.qt (Pu.move rfl)) rfl ?_
  refine O.gq (t := 31) rfl rfl (by decide) rfl (Pu.qt (Pu.not rfl)) rfl ?_
  refine O.p (Pu.pickT rfl (by decide) rfl) rfl ?_
  refine O.p (Pu.move rfl) rfl ?_
  refine O.gq (t := 35) rfl rfl (by decide) rfl (Qt.ld rfl (Cel.var 5 rfl) (o := 0) (off := 0) rfl (Cut.agg [.int .i64 9, .int .i64 0, .int .i64 0, .int .i64 0, .int .i64 1, .int .i64 7, .int .i64 1] Try.isAgg93 Try.sizeOf93 rfl rfl)) rfl ?_
  refine O.gq (t := 35) rfl rfl (by decide) rfl (Qt.ld rfl (Cel.var 4 rfl) (o := 0) (off := 0) rfl (Cut.agg [.int .i64 9, .int .i64 0, .int .i64 0, .int .i64 0, .int .i64 2, .int .i64 8, .int .i64 1] Try.isAgg93 Try.sizeOf93 rfl rfl)) rfl ?_
  refine O.gl (t := 35) rfl rfl (by decide) rfl (Lo.buildM (s := 7) Ev.cells [(⟨9, 0, 0, 0, 1, 7, 1⟩ : Ev), (⟨9, 0, 0, 0, 2, 8, 1⟩ : Ev)] [(0, .agg #[.int .i64 9, .int .i64 0, .int .i64 0, .int .i64 0, .int .i64 1, .int .i64 7, .int .i64 1]), (1, .agg #[.int .i64 9, .int .i64 0, .int .i64 0, .int .i64 0, .int .i64 2, .int .i64 8, .int .i64 1])] (by exact Try.runUnderlying22) (by exact Try.sizeOf93) (by exact Try.zeroValue93) rfl rfl rfl (by kernel_rfl) rfl rfl) rfl ?_
  rintro V9 _ rfl
  refine O.gl (t := 35) rfl rfl (by decide) rfl (Lo.call [.int .i64 0, V9] (by exact Try.call23) rfl (dw_Windows 0 V9 ([(⟨9, 0, 0, 0, 1, 7, 1⟩ : Ev), (⟨9, 0, 0, 0, 2, 8, 1⟩ : Ev)]) (by decide)) [] [0, 1, 2, 3, 4, 5, 6] (by decide) rfl _ rfl (RoOk.of 0 rfl row_rd [] (by decide) rfl RoOk.nil)) rfl ?_
  rintro _ _ ⟨_, ⟨rfl, rfl⟩, rfl⟩
  refine O.gq (t := 35) rfl rfl (by decide) rfl (Pu.qt (Pu.eql rfl rfl)) rfl ?_
  refine O.p (Pu.pickT rfl (by decide) rfl) rfl ?_
  refine O.p (Pu.move rfl) rfl ?_
  refine O.gq (t := 42) rfl rfl (by decide) rfl (Qt.ld rfl (Cel.var 6 rfl) (o := 0) (off := 0) rfl (Cut.agg [.int .i64 9, .int .i64 0, .int .i64 0, .int .i64 0, .int .i64 1, .int .i64 7, .int .i64 1] Try.isAgg93 Try.sizeOf93 rfl rfl)) rfl ?_
  refine O.gq (t := 42) rfl rfl (by decide) rfl (Qt.ld rfl (Cel.var 5 rfl) (o := 0) (off := 0) rfl (Cut.agg [.int .i64 9, .int .i64 0, .int .i64 0, .int .i64 0, .int .i64 2, .int .i64 8, .int .i64 1] Try.isAgg93 Try.sizeOf93 rfl rfl)) rfl ?_
  refine O.gl (t := 42) rfl rfl (by decide) rfl (Lo.buildM (s := 7) Ev.cells [(⟨9, 0, 0, 0, 1, 7, 1⟩ : Ev), (⟨9, 0, 0, 0, 2, 8, 1⟩ : Ev)] [(0, .agg #[.int .i64 9, .int .i64 0, .int .i64 0, .int .i64 0, .int .i64 1, .int .i64 7, .int .i64 1]), (1, .agg #[.int .i64 9, .int .i64 0, .int .i64 0, .int .i64 0, .int .i64 2, .int .i64 8, .int .i64 1])] (by exact Try.runUnderlying22) (by exact Try.sizeOf93) (by exact Try.zeroValue93) rfl rfl rfl (by kernel_rfl) rfl rfl) rfl ?_
  rintro V11 _ rfl
  refine O.gl (t := 42) rfl rfl (by decide) rfl (Lo.call [.int .i64 0, V11] (by exact Try.call25) rfl (dw_Calm 0 V11 ([(⟨9, 0, 0, 0, 1, 7, 1⟩ : Ev), (⟨9, 0, 0, 0, 2, 8, 1⟩ : Ev)]) (by decide)) [] [0, 1, 2, 3, 4, 5, 6, 7] (by decide) rfl _ rfl (RoOk.of 0 rfl row_rd [] (by decide) rfl RoOk.nil)) rfl ?_
  rintro _ _ ⟨_, ⟨rfl, rfl⟩, rfl⟩
  refine O.gq (t := 42) rfl rfl (by decide) rfl (Pu.qt (Pu.eql rfl rfl)) rfl ?_
  refine O.p (Pu.pickT rfl (by decide) rfl) rfl ?_
  refine O.p (Pu.move rfl) rfl ?_
  refine O.gq (t := 49) rfl rfl (by decide) rfl (Qt.ld rfl (Cel.var 7 rfl) (o := 0) (off := 0) rfl (Cut.agg [.int .i64 9, .int .i64 0, .int .i64 0, .int .i64 0, .int .i64 1, .int .i64 7, .int .i64 1] Try.isAgg93 Try.sizeOf93 rfl rfl)) rfl ?_
  refine O.gq (t := 49) rfl rfl (by decide) rfl (Qt.ld rfl (Cel.var 6 rfl) (o := 0) (off := 0) rfl (Cut.agg [.int .i64 9, .int .i64 0, .int .i64 0, .int .i64 0, .int .i64 2, .int .i64 8, .int .i64 1] Try.isAgg93 Try.sizeOf93 rfl rfl)) rfl ?_
  refine O.gl (t := 49) rfl rfl (by decide) rfl (Lo.buildM (s := 7) Ev.cells [(⟨9, 0, 0, 0, 1, 7, 1⟩ : Ev), (⟨9, 0, 0, 0, 2, 8, 1⟩ : Ev)] [(0, .agg #[.int .i64 9, .int .i64 0, .int .i64 0, .int .i64 0, .int .i64 1, .int .i64 7, .int .i64 1]), (1, .agg #[.int .i64 9, .int .i64 0, .int .i64 0, .int .i64 0, .int .i64 2, .int .i64 8, .int .i64 1])] (by exact Try.runUnderlying22) (by exact Try.sizeOf93) (by exact Try.zeroValue93) rfl rfl rfl (by kernel_rfl) rfl rfl) rfl ?_
  rintro V13 _ rfl
  refine O.gl (t := 49) rfl rfl (by decide) rfl (Lo.call [.int .i64 0, .int .i64 8, .int .i64 1, V13] (by exact Try.call21) rfl (dw_Moves 0 8 1 V13 ([(⟨9, 0, 0, 0, 1, 7, 1⟩ : Ev), (⟨9, 0, 0, 0, 2, 8, 1⟩ : Ev)]) (by decide)) [] [0, 1, 2, 3, 4, 5, 6, 7, 8] (by decide) rfl _ rfl (RoOk.of 0 rfl row_rd [] (by decide) rfl RoOk.nil)) rfl ?_
  rintro v14 _ ⟨_, rfl, rfl⟩
  refine O.gq (t := 49) rfl rfl (by decide) rfl (Qt.lenM Try.runUnderlying49 rfl (Src.row 0 rfl)) rfl ?_
  refine O.gq (t := 49) rfl rfl (by decide) rfl (Pu.qt (Pu.eql rfl rfl)) rfl ?_
  refine O.p (Pu.pickT rfl (by decide) rfl) rfl ?_
  refine O.p (Pu.assign rfl) rfl ?_
  refine O.nil ?_
  exact J.ret (Fin.ret (rs := [.tmp 0]) rfl [_] ⟨rfl, trivial⟩ [] (by decide) [] rfl ⟨rfl, rfl⟩)

set_option maxRecDepth 100000 in
theorem law44_dwellReads (lv : Value) (l : List Ev) (s th ti : Int) (x : Kn) (hti : Dw.B64 ti) (hlb : ∀ e ∈ l, Dw.B64 e.b) : Tri Try.prog 4 #[lv, .agg #[.int .i64 s, .int .i64 th, .int .i64 ti], .agg #[.int .i64 x.low, .int .i64 x.high, .int .i64 x.cut, .int .i64 x.lift, .int .i64 x.floor, .int .i64 x.turn, .int .i64 x.dwell]] [rd lv 7 (l.map Ev.cells)] [] (fun v L' => v = .bool true ∧ L' = []) := by
  refine Tri.enter (args := [lv, .agg #[.int .i64 s, .int .i64 th, .int .i64 ti], .agg #[.int .i64 x.low, .int .i64 x.high, .int .i64 x.cut, .int .i64 x.lift, .int .i64 x.floor, .int .i64 x.turn, .int .i64 x.dwell]]) (body := _) 91 Try.func4 rfl Try.ntmps4 rfl ?_
  intro w0
  refine J.seq ?_
  refine J.region ?_
  refine O.l (Lo.box [.int .i64 s, .int .i64 th, .int .i64 ti] rfl rfl) rfl ?_
  rintro _ _ ⟨g1, rfl, rfl⟩
  refine O.l (Lo.box [.int .i64 x.low, .int .i64 x.high, .int .i64 x.cut, .int .i64 x.lift, .int .i64 x.floor, .int .i64 x.turn, .int .i64 x.dwell] rfl rfl) rfl ?_
  rintro _ _ ⟨g2, rfl, rfl⟩
  refine O.p (Pu.assign rfl) rfl ?_
  refine O.nil ?_
  refine J.seq ?_
  refine J.seq ?_
  refine J.region ?_
  refine O.p (Pu.move rfl) rfl ?_
  refine O.q (Qt.lenM Try.runUnderlying22 rfl (Src.ro 0 rfl)) rfl ?_
  refine O.p (Pu.gtr rfl rfl) rfl ?_
  refine O.nil ?_
  refine J.cond rfl (fun h3 => ?_) (fun h3 => ?_)
  ·
    have p4 := of_decide_eq_true h3
    refine J.seq ?_
    refine J.region ?_
    refine O.l (Lo.call [] (by exact Try.call17) rfl law44_awake [] [0, 1] (by decide) rfl _ rfl RoOk.nil) rfl ?_
    rintro _ _ ⟨_, ⟨rfl, rfl⟩, rfl⟩
    refine O.p (Pu.assign rfl) rfl ?_
    refine O.nil ?_
    exact J.ret (Fin.ret (rs := [.tmp 6]) rfl [_] ⟨rfl, trivial⟩ [] (by decide) [] rfl ⟨rfl, rfl⟩)
  ·
    have p6 := of_decide_eq_false h3
    refine J.skip ?_
    refine J.seq ?_
    refine J.region ?_
    refine O.p (Pu.indexAddrK 0 Try.runUnderlying40 Try.sizeOf3 rfl rfl (by decide) (by decide) rfl) rfl ?_
    refine O.q (Qt.ld rfl (Cel.var 1 rfl) (o := 0) (off := 0) rfl (Cut.one Try.isAgg3 rfl)) rfl ?_
    refine O.p (Pu.indexAddrK 1 Try.runUnderlying40 Try.sizeOf3 rfl rfl (by decide) (by decide) rfl) rfl ?_
    refine O.q (Qt.ld rfl (Cel.var 1 rfl) (o := 0) (off := 1) rfl (Cut.one Try.isAgg3 rfl)) rfl ?_
    refine O.p (Pu.indexAddrK 2 Try.runUnderlying40 Try.sizeOf3 rfl rfl (by decide) (by decide) rfl) rfl ?_
    refine O.q (Qt.ld rfl (Cel.var 1 rfl) (o := 0) (off := 2) rfl (Cut.one Try.isAgg3 rfl)) rfl ?_
    refine O.q (Qt.ld rfl (Cel.var 0 rfl) (o := 0) (off := 0) rfl (Cut.agg [.int .i64 x.low, .int .i64 x.high, .int .i64 x.cut, .int .i64 x.lift, .int .i64 x.floor, .int .i64 x.turn, .int .i64 x.dwell] Try.isAgg42 Try.sizeOf42 rfl rfl)) rfl ?_
    refine O.p (Pu.move rfl) rfl ?_
    refine O.l (Lo.call [.int .i64 s, .int .i64 th, .int .i64 ti, .agg #[.int .i64 x.low, .int .i64 x.high, .int .i64 x.cut, .int .i64 x.lift, .int .i64 x.floor, .int .i64 x.turn, .int .i64 x.dwell], lv] (by exact Try.call18) rfl (dw_Wrong s th ti x lv l (by have hrl := Dw.moves_len s th ti l; omega)) [] [0, 1] (by decide) rfl _ rfl (RoOk.ro 0 rfl [] rfl RoOk.nil)) rfl ?_
    rintro _ _ ⟨_, ⟨rfl, rfl⟩, rfl⟩
    refine O.p (Pu.move rfl) rfl ?_
    refine O.p (Pu.extract rfl rfl) rfl ?_
    refine O.p (Pu.extract rfl rfl) rfl ?_
    refine O.l (Lo.alloc [.int .i64 0, .int .i64 0, .int .i64 0] (by exact Try.zeroValue44) rfl) rfl ?_
    rintro _ _ ⟨g8, rfl, rfl⟩
    refine O.l0 (Lo.store 0 (vs := [.int .i64 (((Dw.ws s th ti x l).fst).at_), .int .i64 (((Dw.ws s th ti x l).fst).way), .int .i64 (((Dw.ws s th ti x l).fst).tier)]) [.int .i64 (((Dw.ws s th ti x l).fst).at_), .int .i64 (((Dw.ws s th ti x l).fst).way), .int .i64 (((Dw.ws s th ti x l).fst).tier)] rfl rfl rfl (by exact Try.sizeOf44) rfl rfl rfl rfl rfl) ?_
    rintro _ _ rfl
    refine O.p (Pu.assign rfl) rfl ?_
    refine O.nil ?_
    refine J.seq ?_
    refine J.region ?_
    refine O.p (Pu.indexAddrK 0 Try.runUnderlying40 Try.sizeOf3 rfl rfl (by decide) (by decide) rfl) rfl ?_
    refine O.q (Qt.ld rfl (Cel.var 2 rfl) (o := 0) (off := 0) rfl (Cut.one Try.isAgg3 rfl)) rfl ?_
    refine O.p (Pu.indexAddrK 1 Try.runUnderlying40 Try.sizeOf3 rfl rfl (by decide) (by decide) rfl) rfl ?_
    refine O.q (Qt.ld rfl (Cel.var 2 rfl) (o := 0) (off := 1) rfl (Cut.one Try.isAgg3 rfl)) rfl ?_
    refine O.p (Pu.indexAddrK 2 Try.runUnderlying40 Try.sizeOf3 rfl rfl (by decide) (by decide) rfl) rfl ?_
    refine O.q (Qt.ld rfl (Cel.var 2 rfl) (o := 0) (off := 2) rfl (Cut.one Try.isAgg3 rfl)) rfl ?_
    refine O.q (Qt.ld rfl (Cel.var 1 rfl) (o := 0) (off := 0) rfl (Cut.agg [.int .i64 x.low, .int .i64 x.high, .int .i64 x.cut, .int .i64 x.lift, .int .i64 x.floor, .int .i64 x.turn, .int .i64 x.dwell] Try.isAgg42 Try.sizeOf42 rfl rfl)) rfl ?_
    refine O.p (Pu.move rfl) rfl ?_
    refine O.l (Lo.call [.int .i64 s, .int .i64 th, .int .i64 ti, .agg #[.int .i64 x.low, .int .i64 x.high, .int .i64 x.cut, .int .i64 x.lift, .int .i64 x.floor, .int .i64 x.turn, .int .i64 x.dwell], lv] (by exact Try.call19) rfl (r44_Wrong s th ti x lv l (by have hrl := Dw.moves_len s th ti l; omega) hti hlb) [] [0, 1, 2] (by decide) rfl _ rfl (RoOk.ro 0 rfl [] rfl RoOk.nil)) rfl ?_
    rintro _ _ ⟨_, ⟨rfl, rfl⟩, rfl⟩
    refine O.p (Pu.move rfl) rfl ?_
    refine O.p (Pu.extract rfl rfl) rfl ?_
    refine O.p (Pu.extract rfl rfl) rfl ?_
    refine O.l (Lo.alloc [.int .i64 0, .int .i64 0, .int .i64 0] (by exact Try.zeroValue44) rfl) rfl ?_
    rintro _ _ ⟨g10, rfl, rfl⟩
    refine O.l0 (Lo.store 0 (vs := [.int .i64 (((Dw.ws s th ti x l).fst).at_), .int .i64 (((Dw.ws s th ti x l).fst).way), .int .i64 (((Dw.ws s th ti x l).fst).tier)]) [.int .i64 (((Dw.ws s th ti x l).fst).at_), .int .i64 (((Dw.ws s th ti x l).fst).way), .int .i64 (((Dw.ws s th ti x l).fst).tier)] rfl rfl rfl (by exact Try.sizeOf44) rfl rfl rfl rfl rfl) ?_
    rintro _ _ rfl
    refine O.p (Pu.assign rfl) rfl ?_
    refine O.nil ?_
    refine J.seq ?_
    refine J.drawMix [(0, false), (1, false), (2, false), (3, false), (4, false), (5, false), (6, false), (8, false), (9, false), (10, false), (11, false), (12, false), (13, false), (14, false), (7, true), (15, true), (16, false), (17, false), (18, false), (19, false), (20, false), (21, false), (22, false), (23, false), (24, false), (25, false), (26, false), (27, false), (28, false), (29, false), (30, false), (31, false), (32, false), (33, false), (34, false), (35, false), (36, false), (37, false), (38, false), (39, false), (40, false), (41, false), (42, false), (43, false), (44, false), (45, false), (46, false), (47, false), (48, false), (49, false), (50, false), (51, false), (52, false)] [0, 1, 3] [var g10 [.int .i64 (((Dw.ws s th ti x l).fst).at_), .int .i64 (((Dw.ws s th ti x l).fst).way), .int .i64 (((Dw.ws s th ti x l).fst).tier)] 44, var g8 [.int .i64 (((Dw.ws s th ti x l).fst).at_), .int .i64 (((Dw.ws s th ti x l).fst).way), .int .i64 (((Dw.ws s th ti x l).fst).tier)] 44, var g1 [.int .i64 s, .int .i64 th, .int .i64 ti] 40] Try.mixed (by kernel_rfl) (by decide) rfl ?_
    refine Mx.p rfl (Pu.indexAddrK 0 Try.runUnderlying40 Try.sizeOf3 rfl rfl (by decide) (by decide) rfl) rfl ?_
    refine Mx.q rfl (Qt.ld rfl (Cel.var 2 rfl) (o := 0) (off := 0) rfl (Cut.one Try.isAgg3 rfl)) rfl ?_
    refine Mx.p rfl (Pu.indexAddrK 1 Try.runUnderlying40 Try.sizeOf3 rfl rfl (by decide) (by decide) rfl) rfl ?_
    refine Mx.q rfl (Qt.ld rfl (Cel.var 2 rfl) (o := 0) (off := 1) rfl (Cut.one Try.isAgg3 rfl)) rfl ?_
    refine Mx.p rfl (Pu.indexAddrK 2 Try.runUnderlying40 Try.sizeOf3 rfl rfl (by decide) (by decide) rfl) rfl ?_
    refine Mx.q rfl (Qt.ld rfl (Cel.var 2 rfl) (o := 0) (off := 2) rfl (Cut.one Try.isAgg3 rfl)) rfl ?_
    refine Mx.p rfl (Pu.move rfl) rfl ?_
    refine Mx.p rfl (Pu.indexAddrK 0 Try.runUnderlying40 Try.sizeOf3 rfl rfl (by decide) (by decide) rfl) rfl ?_
    refine Mx.q rfl (Qt.ld rfl (Cel.var 2 rfl) (o := 0) (off := 0) rfl (Cut.one Try.isAgg3 rfl)) rfl ?_
    refine Mx.p rfl (Pu.indexAddrK 1 Try.runUnderlying40 Try.sizeOf3 rfl rfl (by decide) (by decide) rfl) rfl ?_
    refine Mx.q rfl (Qt.ld rfl (Cel.var 2 rfl) (o := 0) (off := 1) rfl (Cut.one Try.isAgg3 rfl)) rfl ?_
    refine Mx.p rfl (Pu.indexAddrK 2 Try.runUnderlying40 Try.sizeOf3 rfl rfl (by decide) (by decide) rfl) rfl ?_
    refine Mx.q rfl (Qt.ld rfl (Cel.var 2 rfl) (o := 0) (off := 2) rfl (Cut.one Try.isAgg3 rfl)) rfl ?_
    refine Mx.p rfl (Pu.move rfl) rfl ?_
    refine Mx.l rfl (Lo.call [.int .i64 s, .int .i64 th, .int .i64 ti, lv] (by exact Try.call21) rfl (dw_Moves s th ti lv l (by have hrl := Dw.moves_len s th ti l; omega)) [] [0, 1, 2, 3] (by decide) rfl _ rfl (RoOk.ro 0 rfl [] rfl RoOk.nil)) rfl ?_
    rintro v11 _ ⟨_, rfl, rfl⟩
    refine MxK.go [0, 1, 2, 4] [1, 2, 3] [row v11 44 3 ((Dw.moves s th ti l).map Mv.cells), var g10 [.int .i64 (((Dw.ws s th ti x l).fst).at_), .int .i64 (((Dw.ws s th ti x l).fst).way), .int .i64 (((Dw.ws s th ti x l).fst).tier)] 44, var g8 [.int .i64 (((Dw.ws s th ti x l).fst).at_), .int .i64 (((Dw.ws s th ti x l).fst).way), .int .i64 (((Dw.ws s th ti x l).fst).tier)] 44, var g1 [.int .i64 s, .int .i64 th, .int .i64 ti] 40] (by decide) rfl (by decide) rfl ?_
    refine Mx.l rfl (Lo.call [.int .i64 s, .int .i64 th, .int .i64 ti, lv] (by exact Try.call22) rfl (r44_Moves s th ti lv l (by have hrl := Dw.moves_len s th ti l; omega)) [] [0, 1, 2, 3, 4] (by decide) rfl _ rfl (RoOk.ro 0 rfl [] rfl RoOk.nil)) rfl ?_
    rintro v12 _ ⟨_, rfl, rfl⟩
    refine MxK.go [0, 1, 2, 3, 5] [1, 2, 3, 4] [row v12 44 3 ((Dw.moves s th ti l).map Mv.cells), row v11 44 3 ((Dw.moves s th ti l).map Mv.cells), var g10 [.int .i64 (((Dw.ws s th ti x l).fst).at_), .int .i64 (((Dw.ws s th ti x l).fst).way), .int .i64 (((Dw.ws s th ti x l).fst).tier)] 44, var g8 [.int .i64 (((Dw.ws s th ti x l).fst).at_), .int .i64 (((Dw.ws s th ti x l).fst).way), .int .i64 (((Dw.ws s th ti x l).fst).tier)] 44, var g1 [.int .i64 s, .int .i64 th, .int .i64 ti] 40] (by decide) rfl (by decide) rfl ?_
    refine Mx.call (vs := [v11, v12]) (caps := []) rfl (by exact Try.call20) rfl rfl (r44_same v11 v12 (Dw.moves s th ti l) (by have hrl := Dw.moves_len s th ti l; omega)) (fun _ _ h => h) (RoOk.of 1 rfl row_rd [] (by decide) rfl (RoOk.of 0 rfl row_rd [] (by decide) rfl RoOk.nil)) rfl ?_
    refine Mx.p rfl (Pu.move rfl) rfl ?_
    refine Mx.gq (t := 56) rfl rfl rfl rfl rfl (Qt.ld rfl (Cel.var 3 rfl) (o := 0) (off := 0) rfl (Cut.agg [.int .i64 (((Dw.ws s th ti x l).fst).at_), .int .i64 (((Dw.ws s th ti x l).fst).way), .int .i64 (((Dw.ws s th ti x l).fst).tier)] Try.isAgg44 Try.sizeOf44 rfl rfl)) rfl ?_
    refine Mx.gq (t := 56) rfl rfl rfl rfl rfl (Qt.ld rfl (Cel.var 2 rfl) (o := 0) (off := 0) rfl (Cut.agg [.int .i64 (((Dw.ws s th ti x l).fst).at_), .int .i64 (((Dw.ws s th ti x l).fst).way), .int .i64 (((Dw.ws s th ti x l).fst).tier)] Try.isAgg44 Try.sizeOf44 rfl rfl)) rfl ?_
    refine Mx.gq (t := 56) rfl rfl rfl rfl rfl (Pu.qt (Pu.eqlI [((Dw.ws s th ti x l).fst).at_, ((Dw.ws s th ti x l).fst).way, ((Dw.ws s th ti x l).fst).tier] [((Dw.ws s th ti x l).fst).at_, ((Dw.ws s th ti x l).fst).way, ((Dw.ws s th ti x l).fst).tier] Try.underlying44 Try.stoodInHeld44 Try.eqGuardType44 (fint44 Try.underlying44) rfl rfl rfl rfl)) rfl ?_
    refine Mx.p rfl (Pu.pickT rfl rfl rfl) rfl ?_
    refine Mx.p rfl (Pu.move rfl) rfl ?_
    refine Mx.gq (t := 61) rfl rfl rfl (by simp) rfl (Pu.qt (Pu.move rfl)) rfl ?_
    refine Mx.gq (t := 61) rfl rfl rfl (by simp) rfl (Pu.qt (Pu.move rfl)) rfl ?_
    refine Mx.gq (t := 61) rfl rfl rfl (by simp) rfl (Pu.qt (Pu.beql Try.underlying4 rfl rfl)) rfl ?_
    refine Mx.p rfl (Pu.pickT rfl (by simp) rfl) rfl ?_
    refine Mx.p rfl (Pu.move rfl) rfl ?_
    refine Mx.gq (t := 66) rfl rfl rfl (by simp) rfl (Pu.qt (Pu.indexAddrK 0 Try.runUnderlying40 Try.sizeOf3 rfl rfl (by decide) (by decide) rfl)) rfl ?_
    refine Mx.gq (t := 66) rfl rfl rfl (by simp) rfl (Qt.ld rfl (Cel.var 4 rfl) (o := 0) (off := 0) rfl (Cut.one Try.isAgg3 rfl)) rfl ?_
    refine Mx.gq (t := 66) rfl rfl rfl (by simp) rfl (Pu.qt (Pu.move rfl)) rfl ?_
    refine Mx.gcall (vs := [.int .i64 s, lv]) (caps := []) (t := 66) rfl rfl rfl (by simp) rfl (by exact Try.call23) rfl rfl (dw_Windows s lv l (by have hrl := Dw.moves_len s th ti l; omega)) (fun _ _ h => h) (RoOk.ro 0 rfl [] rfl RoOk.nil) rfl ?_
    refine Mx.gq (t := 66) rfl rfl rfl (by simp) rfl (Pu.qt (Pu.indexAddrK 0 Try.runUnderlying40 Try.sizeOf3 rfl rfl (by decide) (by decide) rfl)) rfl ?_
    refine Mx.gq (t := 66) rfl rfl rfl (by simp) rfl (Qt.ld rfl (Cel.var 4 rfl) (o := 0) (off := 0) rfl (Cut.one Try.isAgg3 rfl)) rfl ?_
    refine Mx.gq (t := 66) rfl rfl rfl (by simp) rfl (Pu.qt (Pu.move rfl)) rfl ?_
    refine Mx.gcall (vs := [.int .i64 s, lv]) (caps := []) (t := 66) rfl rfl rfl (by simp) rfl (by exact Try.call24) rfl rfl (r44_Windows s lv l (by have hrl := Dw.moves_len s th ti l; omega)) (fun _ _ h => h) (RoOk.ro 0 rfl [] rfl RoOk.nil) rfl ?_
    refine Mx.gq (t := 66) rfl rfl rfl (by simp) rfl (Pu.qt (Pu.eql rfl rfl)) rfl ?_
    refine Mx.p rfl (Pu.pickT rfl (by simp) rfl) rfl ?_
    refine Mx.p rfl (Pu.move rfl) rfl ?_
    refine Mx.gq (t := 77) rfl rfl rfl (by simp) rfl (Pu.qt (Pu.indexAddrK 0 Try.runUnderlying40 Try.sizeOf3 rfl rfl (by decide) (by decide) rfl)) rfl ?_
    refine Mx.gq (t := 77) rfl rfl rfl (by simp) rfl (Qt.ld rfl (Cel.var 4 rfl) (o := 0) (off := 0) rfl (Cut.one Try.isAgg3 rfl)) rfl ?_
    refine Mx.gq (t := 77) rfl rfl rfl (by simp) rfl (Pu.qt (Pu.move rfl)) rfl ?_
    refine Mx.gcall (vs := [.int .i64 s, lv]) (caps := []) (t := 77) rfl rfl rfl (by simp) rfl (by exact Try.call25) rfl rfl (dw_Calm s lv l (by have hrl := Dw.moves_len s th ti l; omega)) (fun _ _ h => h) (RoOk.ro 0 rfl [] rfl RoOk.nil) rfl ?_
    refine Mx.gq (t := 77) rfl rfl rfl (by simp) rfl (Pu.qt (Pu.indexAddrK 0 Try.runUnderlying40 Try.sizeOf3 rfl rfl (by decide) (by decide) rfl)) rfl ?_
    refine Mx.gq (t := 77) rfl rfl rfl (by simp) rfl (Qt.ld rfl (Cel.var 4 rfl) (o := 0) (off := 0) rfl (Cut.one Try.isAgg3 rfl)) rfl ?_
    refine Mx.gq (t := 77) rfl rfl rfl (by simp) rfl (Pu.qt (Pu.move rfl)) rfl ?_
    refine Mx.gcall (vs := [.int .i64 s, lv]) (caps := []) (t := 77) rfl rfl rfl (by simp) rfl (by exact Try.call26) rfl rfl (r44_Calm s lv l (by have hrl := Dw.moves_len s th ti l; omega)) (fun _ _ h => h) (RoOk.ro 0 rfl [] rfl RoOk.nil) rfl ?_
    refine Mx.gq (t := 77) rfl rfl rfl (by simp) rfl (Pu.qt (Pu.eql rfl rfl)) rfl ?_
    refine Mx.p rfl (Pu.pickT rfl (by simp) rfl) rfl ?_
    refine Mx.p rfl (Pu.move rfl) rfl ?_
    refine Mx.gcall (vs := []) (caps := []) (t := 88) rfl rfl rfl (by simp) rfl (by exact Try.call17) rfl rfl law44_awake (fun _ _ h => h) RoOk.nil rfl ?_
    refine Mx.p rfl (Pu.pickT rfl (by simp) rfl) rfl ?_
    refine Mx.p rfl (Pu.assign rfl) rfl ?_
    refine Mx.nil ?_
    exact J.ret (Fin.ret (rs := [.tmp 6]) rfl [_] ⟨rfl, trivial⟩ [] (by decide) [] rfl ⟨rfl, rfl⟩)

end Go.Proofs.Ytghhjhjpccipaaa
