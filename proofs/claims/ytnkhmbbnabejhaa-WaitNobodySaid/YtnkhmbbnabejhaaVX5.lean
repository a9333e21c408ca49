/-
  Walks, printed by a program of mine (lk.py): each function meets its contract.
-/
import Derived.KernelRfl
import Derived.Test.YtnkhmbbnabejhaaVX4
namespace Go.Proofs.Ytnkhmbbnabejhaa
open Go Go.LK
set_option linter.unusedSimpArgs false

set_option maxRecDepth 100000 in
theorem law34_waitNobody (c j : Int) : Tri Try.prog 6 #[.int .i64 c, .int .i64 j] [] [] (fun v L' => v = .bool true ∧ L' = []) := by
  refine Tri.enter (args := [.int .i64 c, .int .i64 j]) (body := _) 80 Try.func6 rfl Try.ntmps6 rfl ?_
  intro w0
  refine J.seq ?_
  refine J.region ?_
  refine O.p (Pu.assign rfl) rfl ?_
  refine O.nil ?_
  refine J.seq ?_
  refine J.region ?_
  refine O.p (Pu.assign rfl) rfl ?_
  refine O.nil ?_
  refine J.seq ?_
  refine J.region ?_
  refine O.p (Pu.build [] [Value.map none, Value.map none] #[(0, 1), (1, 1)] Try.runUnderlying62 Try.zeroValue62 (places62 Try.underlying62) rfl (by kernel_rfl)) rfl ?_
  refine O.l (Lo.box [Value.map none, Value.map none] rfl rfl) rfl ?_
  rintro _ _ ⟨g1, rfl, rfl⟩
  refine O.p (Pu.assign rfl) rfl ?_
  refine O.nil ?_
  refine J.seq ?_
  refine J.region ?_
  refine O.p (Pu.move rfl) rfl ?_
  refine O.l (Lo.call [Value.pointer none] (by exact Try.call29) rfl w_ClearNil [] [0] (by decide) rfl [var g1 [Value.map none, Value.map none] 62] rfl RoOk.nil) rfl ?_
  rintro _ _ ⟨_, ⟨rfl, rfl⟩, rfl⟩
  refine O.nil ?_
  refine J.seq ?_
  refine J.region ?_
  refine O.p (Pu.move rfl) rfl ?_
  refine O.l (Lo.call [.pointer (some ⟨g1, 0, none⟩)] (by exact Try.call29) rfl (w_ClearOdd g1) [0] [] (by decide) rfl [] rfl RoOk.nil) rfl ?_
  rintro _ _ ⟨_, ⟨rfl, rfl⟩, rfl⟩
  refine O.nil ?_
  refine J.seq ?_
  refine J.region ?_
  refine O.p (Pu.move rfl) rfl ?_
  refine O.p (Pu.move rfl) rfl ?_
  refine O.l (Lo.call [Value.pointer none, .int .i64 c] (by exact Try.call19) rfl (w_JobNil c) [] [0] (by decide) rfl [var g1 [Value.map none, Value.map none] 62] rfl RoOk.nil) rfl ?_
  rintro _ _ ⟨_, ⟨rfl, rfl⟩, rfl⟩
  refine O.p (Pu.move rfl) rfl ?_
  refine O.p (Pu.extract rfl rfl) rfl ?_
  refine O.p (Pu.extract rfl rfl) rfl ?_
  refine O.p (Pu.assign rfl) rfl ?_
  refine O.p (Pu.assign rfl) rfl ?_
  refine O.nil ?_
  refine J.seq ?_
  refine J.region ?_
  refine O.p (Pu.move rfl) rfl ?_
  refine O.p (Pu.move rfl) rfl ?_
  refine O.l (Lo.call [.pointer (some ⟨g1, 0, none⟩), .int .i64 c] (by exact Try.call21) rfl (w_TakeOdd g1 c) [] [0] (by decide) rfl [var g1 [Value.map none, Value.map none] 62] rfl (RoOk.of 0 rfl same_rd [] (by decide) rfl RoOk.nil)) rfl ?_
  rintro _ _ ⟨_, ⟨rfl, rfl⟩, rfl⟩
  refine O.p (Pu.move rfl) rfl ?_
  refine O.p (Pu.extract rfl rfl) rfl ?_
  refine O.p (Pu.extract rfl rfl) rfl ?_
  refine O.p (Pu.assign rfl) rfl ?_
  refine O.p (Pu.assign rfl) rfl ?_
  refine O.nil ?_
  refine J.seq ?_
  refine J.region ?_
  refine O.p (Pu.move rfl) rfl ?_
  refine O.p (Pu.move rfl) rfl ?_
  refine O.p (Pu.move rfl) rfl ?_
  refine O.l (Lo.call [Value.pointer none, .int .i64 c, .int .i64 j] (by exact Try.call20) rfl (w_AddNil c j) [] [0] (by decide) rfl [var g1 [Value.map none, Value.map none] 62] rfl RoOk.nil) rfl ?_
  rintro _ _ ⟨_, ⟨rfl, rfl⟩, rfl⟩
  refine O.p (Pu.not rfl) rfl ?_
  refine O.p (Pu.move rfl) rfl ?_
  refine O.gq (t := 34) rfl rfl rfl rfl (Pu.qt (Pu.move rfl)) rfl ?_
  refine O.gq (t := 34) rfl rfl rfl rfl (Pu.qt (Pu.move rfl)) rfl ?_
  refine O.gq (t := 34) rfl rfl rfl rfl (Pu.qt (Pu.move rfl)) rfl ?_
  refine O.gl (t := 34) rfl rfl rfl rfl (Lo.call [.pointer (some ⟨g1, 0, none⟩), .int .i64 c, .int .i64 j] (by exact Try.call20) rfl (w_AddOdd g1 c j) [] [0] (by decide) rfl [var g1 [Value.map none, Value.map none] 62] rfl (RoOk.of 0 rfl same_rd [] (by decide) rfl RoOk.nil)) rfl ?_
  rintro _ _ ⟨_, ⟨rfl, rfl⟩, rfl⟩
  refine O.gq (t := 34) rfl rfl rfl rfl (Pu.qt (Pu.not rfl)) rfl ?_
  refine O.p (Pu.pickT rfl rfl rfl) rfl ?_
  refine O.p (Pu.move rfl) rfl ?_
  refine O.gq (t := 41) rfl rfl rfl rfl (Pu.qt (Pu.move rfl)) rfl ?_
  refine O.gq (t := 41) rfl rfl rfl rfl (Pu.qt (Pu.not rfl)) rfl ?_
  refine O.p (Pu.pickT rfl rfl rfl) rfl ?_
  refine O.p (Pu.move rfl) rfl ?_
  refine O.gq (t := 45) rfl rfl rfl rfl (Pu.qt (Pu.move rfl)) rfl ?_
  refine O.gq (t := 45) rfl rfl rfl rfl (Pu.qt (Pu.not rfl)) rfl ?_
  refine O.p (Pu.pickT rfl rfl rfl) rfl ?_
  refine O.p (Pu.move rfl) rfl ?_
  refine O.gq (t := 49) rfl rfl rfl rfl (Pu.qt (Pu.move rfl)) rfl ?_
  refine O.gl (t := 49) rfl rfl rfl rfl (Lo.call [Value.pointer none] (by exact Try.call30) rfl w_LenNil [] [0] (by decide) rfl [var g1 [Value.map none, Value.map none] 62] rfl RoOk.nil) rfl ?_
  rintro _ _ ⟨_, ⟨rfl, rfl⟩, rfl⟩
  refine O.gq (t := 49) rfl rfl rfl rfl (Pu.qt (Pu.move rfl)) rfl ?_
  refine O.gl (t := 49) rfl rfl rfl rfl (Lo.call [.pointer (some ⟨g1, 0, none⟩)] (by exact Try.call30) rfl (w_LenOdd g1) [] [0] (by decide) rfl [var g1 [Value.map none, Value.map none] 62] rfl (RoOk.of 0 rfl same_rd [] (by decide) rfl RoOk.nil)) rfl ?_
  rintro _ _ ⟨_, ⟨rfl, rfl⟩, rfl⟩
  refine O.gq (t := 49) rfl rfl rfl rfl (Pu.qt (Pu.add' rfl rfl (by decide))) rfl ?_
  refine O.gq (t := 49) rfl rfl rfl rfl (Pu.qt (Pu.move rfl)) rfl ?_
  refine O.gq (t := 49) rfl rfl rfl rfl (Pu.qt (Pu.move rfl)) rfl ?_
  refine O.gl (t := 49) rfl rfl rfl rfl (Lo.call [Value.pointer none, .int .i64 j] (by exact Try.call18) rfl (w_OfNil j) [] [0] (by decide) rfl [var g1 [Value.map none, Value.map none] 62] rfl RoOk.nil) rfl ?_
  rintro v10 _ ⟨_, rfl, rfl⟩
  refine O.gq (t := 49) rfl rfl rfl rfl (Qt.lenM Try.runUnderlying24 rfl (Src.row 0 rfl)) rfl ?_
  refine O.gq (t := 49) rfl rfl rfl rfl (Pu.qt (Pu.add' rfl rfl (by decide))) rfl ?_
  refine O.gq (t := 49) rfl rfl rfl rfl (Pu.qt (Pu.move rfl)) rfl ?_
  refine O.gq (t := 49) rfl rfl rfl rfl (Pu.qt (Pu.move rfl)) rfl ?_
  refine O.gl (t := 49) rfl rfl rfl rfl (Lo.call [.pointer (some ⟨g1, 0, none⟩), .int .i64 j] (by exact Try.call18) rfl (w_OfOdd g1 j) [] [0, 1] (by decide) rfl [row v10 3 1 (([] : List Int).map encZ), var g1 [Value.map none, Value.map none] 62] rfl (RoOk.of 1 rfl same_rd [] (by decide) rfl RoOk.nil)) rfl ?_
  rintro v11 _ ⟨_, rfl, rfl⟩
  refine O.gq (t := 49) rfl rfl rfl rfl (Qt.lenM Try.runUnderlying24 rfl (Src.row 0 rfl)) rfl ?_
  refine O.gq (t := 49) rfl rfl rfl rfl (Pu.qt (Pu.add' rfl rfl (by decide))) rfl ?_
  refine O.gq (t := 49) rfl rfl rfl rfl (Pu.qt (Pu.move rfl)) rfl ?_
  refine O.gq (t := 49) rfl rfl rfl rfl (Pu.qt (Pu.move rfl)) rfl ?_
  refine O.gl (t := 49) rfl rfl rfl rfl (Lo.call [Value.pointer none, .int .i64 j] (by exact Try.call22) rfl (w_DropNil j) [] [0, 1, 2] (by decide) rfl [row v11 3 1 (([] : List Int).map encZ), row v10 3 1 (([] : List Int).map encZ), var g1 [Value.map none, Value.map none] 62] rfl RoOk.nil) rfl ?_
  rintro v12 _ ⟨_, rfl, rfl⟩
  refine O.gq (t := 49) rfl rfl rfl rfl (Qt.lenM Try.runUnderlying24 rfl (Src.row 0 rfl)) rfl ?_
  refine O.gq (t := 49) rfl rfl rfl rfl (Pu.qt (Pu.add' rfl rfl (by decide))) rfl ?_
  refine O.gq (t := 49) rfl rfl rfl rfl (Pu.qt (Pu.move rfl)) rfl ?_
  refine O.gq (t := 49) rfl rfl rfl rfl (Pu.qt (Pu.move rfl)) rfl ?_
  refine O.gl (t := 49) rfl rfl rfl rfl (Lo.call [.pointer (some ⟨g1, 0, none⟩), .int .i64 j] (by exact Try.call22) rfl (w_DropOdd g1 j) [] [0, 1, 2, 3] (by decide) rfl [row v12 3 1 (([] : List Int).map encZ), row v11 3 1 (([] : List Int).map encZ), row v10 3 1 (([] : List Int).map encZ), var g1 [Value.map none, Value.map none] 62] rfl (RoOk.of 3 rfl same_rd [] (by decide) rfl RoOk.nil)) rfl ?_
  rintro v13 _ ⟨_, rfl, rfl⟩
  refine O.gq (t := 49) rfl rfl rfl rfl (Qt.lenM Try.runUnderlying24 rfl (Src.row 0 rfl)) rfl ?_
  refine O.gq (t := 49) rfl rfl rfl rfl (Pu.qt (Pu.add' rfl rfl (by decide))) rfl ?_
  refine O.gq (t := 49) rfl rfl rfl rfl (Pu.qt (Pu.eql rfl rfl)) rfl ?_
  refine O.p (Pu.pickT rfl rfl rfl) rfl ?_
  refine O.p (Pu.move rfl) rfl ?_
  refine O.gl (t := 77) rfl rfl rfl rfl (Lo.call [] (by exact Try.call16) rfl law34_awake [] [0, 1, 2, 3, 4] (by decide) rfl [row v13 3 1 (([] : List Int).map encZ), row v12 3 1 (([] : List Int).map encZ), row v11 3 1 (([] : List Int).map encZ), row v10 3 1 (([] : List Int).map encZ), var g1 [Value.map none, Value.map none] 62] rfl RoOk.nil) rfl ?_
  rintro _ _ ⟨_, ⟨rfl, rfl⟩, rfl⟩
  refine O.p (Pu.pickT rfl rfl rfl) rfl ?_
  refine O.p (Pu.assign rfl) rfl ?_
  refine O.nil ?_
  exact J.ret (Fin.ret (rs := [.tmp 4]) rfl [_] ⟨rfl, trivial⟩ [] (by decide) [] rfl ⟨rfl, rfl⟩)

end Go.Proofs.Ytnkhmbbnabejhaa
