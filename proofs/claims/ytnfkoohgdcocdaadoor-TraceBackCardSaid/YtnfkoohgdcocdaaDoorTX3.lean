/-
  Walks, printed by a program of mine (lk.py): each function meets its contract.
-/
import Derived.KernelRfl
import Derived.Test.YtnfkoohgdcocdaaDoorKX1
import Derived.Test.YtnfkoohgdcocdaaDoorTrace2
import Derived.Test.YtnfkoohgdcocdaaDoorNumsB
namespace Go.Proofs.YtnfkoohgdcocdaaDoor
open Go Go.LK
set_option linter.unusedSimpArgs false

set_option maxRecDepth 100000 in
theorem b_copyCheck_fresh (b : Nat) (V : Value) : Tri Tryd.prog 124 #[.pointer (some ⟨b, 0, none⟩)] [] [var b [Value.pointer none, V] 115] (fun v L' => v = .tuple #[] ∧ L' = [var b [.pointer (some ⟨b, 0, none⟩), V] 115]) := by
  refine Tri.enter (args := [.pointer (some ⟨b, 0, none⟩)]) (body := _) 20 Tryd.func124 rfl Tryd.ntmps124 rfl ?_
  intro w0
  refine J.seq ?_
  refine J.region ?_
  refine O.p (Pu.move rfl) rfl ?_
  refine O.p (Pu.nilCheck rfl) rfl ?_
  refine O.p (Pu.fieldAddr (off' := 0) Tryd.runUnderlying115 rfl Tryd.sizeOf112 rfl rfl rfl) rfl ?_
  refine O.q (Qt.ld rfl (Cel.var 0 rfl) (o := 0) (off := 0) rfl (Cut.one Tryd.isAgg112 rfl)) rfl ?_
  refine O.p (Pu.nilEq Tryd.underlying112 rfl) rfl ?_
  refine O.nil ?_
  refine J.condT rfl rfl ?_
  refine J.region ?_
  refine O.p (Pu.move rfl) rfl ?_
  refine O.p (Pu.move rfl) rfl ?_
  refine O.q (Qt.toUnsafe 0 Tryd.underlying112 Tryd.underlying174 (info115).1 (by rw [(info115).2.2.1]; decide) rfl rfl rfl) rfl ?_
  refine O.p (Pu.noEscape Tryd.func145 (by kernel_rfl) (by kernel_rfl) (by kernel_rfl) (by kernel_rfl) rfl) rfl ?_
  refine O.q (Qt.fromUnsafe 0 Tryd.underlying174 Tryd.underlying112 (info115).1 rfl rfl (by kernel_rfl)) rfl ?_
  refine O.p (Pu.nilCheck rfl) rfl ?_
  refine O.p (Pu.fieldAddr (off' := 0) Tryd.runUnderlying115 rfl Tryd.sizeOf112 rfl rfl rfl) rfl ?_
  refine O.l0 (Lo.store 0 (vs := [.pointer (some ⟨b, 0, none⟩)]) [.pointer (some ⟨b, 0, none⟩), V] rfl rfl rfl (by exact Tryd.sizeOf112) rfl rfl rfl rfl rfl) ?_
  rintro _ _ rfl
  refine O.nil ?_
  exact J.done (Fin.ret (rs := []) rfl [] trivial [0] (by decide) [var b [.pointer (some ⟨b, 0, none⟩), V] 115] rfl ⟨rfl, rfl⟩)

set_option maxRecDepth 100000 in
theorem b_copyCheck_used (b : Nat) (V : Value) : Tri Tryd.prog 124 #[.pointer (some ⟨b, 0, none⟩)] [] [var b [.pointer (some ⟨b, 0, none⟩), V] 115] (fun v L' => v = .tuple #[] ∧ L' = [var b [.pointer (some ⟨b, 0, none⟩), V] 115]) := by
  refine Tri.enter (args := [.pointer (some ⟨b, 0, none⟩)]) (body := _) 20 Tryd.func124 rfl Tryd.ntmps124 rfl ?_
  intro w0
  refine J.seq ?_
  refine J.region ?_
  refine O.p (Pu.move rfl) rfl ?_
  refine O.p (Pu.nilCheck rfl) rfl ?_
  refine O.p (Pu.fieldAddr (off' := 0) Tryd.runUnderlying115 rfl Tryd.sizeOf112 rfl rfl rfl) rfl ?_
  refine O.q (Qt.ld rfl (Cel.var 0 rfl) (o := 0) (off := 0) rfl (Cut.one Tryd.isAgg112 rfl)) rfl ?_
  refine O.p (Pu.someEq Tryd.underlying112 rfl) rfl ?_
  refine O.nil ?_
  refine J.condF rfl rfl ?_
  refine J.seq ?_
  refine J.region ?_
  refine O.p (Pu.move rfl) rfl ?_
  refine O.p (Pu.nilCheck rfl) rfl ?_
  refine O.p (Pu.fieldAddr (off' := 0) Tryd.runUnderlying115 rfl Tryd.sizeOf112 rfl rfl rfl) rfl ?_
  refine O.q (Qt.ld rfl (Cel.var 0 rfl) (o := 0) (off := 0) rfl (Cut.one Tryd.isAgg112 rfl)) rfl ?_
  refine O.p (Pu.move rfl) rfl ?_
  refine O.p (Pu.samePtr Tryd.underlying112 (info115).1 rfl rfl) rfl ?_
  refine O.nil ?_
  refine J.condF rfl rfl ?_
  refine J.skip ?_
  exact J.done (Fin.ret (rs := []) rfl [] trivial [0] (by decide) [var b [.pointer (some ⟨b, 0, none⟩), V] 115] rfl ⟨rfl, rfl⟩)

set_option maxRecDepth 100000 in
theorem b_WriteString_fresh (b : Nat) (V : Value) (l s : List UInt8) (hl : l.length + s.length ≤ 1000000000) : Tri Tryd.prog 85 #[.pointer (some ⟨b, 0, none⟩), str s] [] [var b [Value.pointer none, V] 115, row V 5 1 (l.map encB)] (fun v L' => ∃ V', v = .tuple #[.int .i64 s.length, .nilIface] ∧ L' = [var b [.pointer (some ⟨b, 0, none⟩), V'] 115, row V' 5 1 ((l ++ s).map encB)]) := by
  refine Tri.enter (args := [.pointer (some ⟨b, 0, none⟩), str s]) (body := _) 19 Tryd.func85 rfl Tryd.ntmps85 rfl ?_
  intro w0
  refine J.seq ?_
  refine J.region ?_
  refine O.p (Pu.assign rfl) rfl ?_
  refine O.p (Pu.assign rfl) rfl ?_
  refine O.nil ?_
  refine J.seq ?_
  refine J.region ?_
  refine O.p (Pu.move rfl) rfl ?_
  refine O.l (Lo.call [.pointer (some ⟨b, 0, none⟩)] (by exact Tryd.call124) rfl (b_copyCheck_fresh b V) [0] [1] (by decide) rfl _ rfl RoOk.nil) rfl ?_
  rintro _ _ ⟨_, ⟨rfl, rfl⟩, rfl⟩
  refine O.nil ?_
  refine J.seq ?_
  refine J.region ?_
  refine O.p (Pu.move rfl) rfl ?_
  refine O.p (Pu.move rfl) rfl ?_
  refine O.p (Pu.nilCheck rfl) rfl ?_
  refine O.p (Pu.fieldAddr (off' := 1) Tryd.runUnderlying115 rfl Tryd.sizeOf113 rfl rfl rfl) rfl ?_
  refine O.q (Qt.ld rfl (Cel.var 0 rfl) (o := 0) (off := 1) rfl (Cut.one Tryd.isAgg113 rfl)) rfl ?_
  refine O.p (Pu.move rfl) rfl ?_
  refine O.l (Lo.appendStr 1 (by exact Tryd.underlying113) (by exact Tryd.underlying9) (by exact (info5).1) (by exact (info5).2.1) (by exact (info5).2.2.1) (by exact (info5).2.2.2) rfl rfl rfl (by omega)) rfl ?_
  rintro V2 _ rfl
  refine O.p (Pu.nilCheck rfl) rfl ?_
  refine O.p (Pu.fieldAddr (off' := 1) Tryd.runUnderlying115 rfl Tryd.sizeOf113 rfl rfl rfl) rfl ?_
  refine O.one (Src.row 1 rfl) (fun hV3 => ?_)
  refine O.l0 (Lo.store 0 (vs := [V2]) [.pointer (some ⟨b, 0, none⟩), V2] rfl rfl rfl (by exact Tryd.sizeOf113) (one_cells hV3) rfl (one_all hV3) rfl rfl) ?_
  rintro _ _ rfl
  refine O.nil ?_
  refine J.seq ?_
  refine J.region ?_
  refine O.p (Pu.move rfl) rfl ?_
  refine O.p (Pu.sLen Tryd.runUnderlying9 rfl) rfl ?_
  refine O.p (Pu.assign rfl) rfl ?_
  refine O.p (Pu.assign rfl) rfl ?_
  refine O.nil ?_
  exact J.ret (Fin.ret (rs := [.tmp 4, .tmp 5]) rfl [_, _] ⟨rfl, rfl, trivial⟩ [0, 1] (by decide) [var b [.pointer (some ⟨b, 0, none⟩), V2] 115, row V2 5 1 ((l ++ s).map encB)] rfl ⟨V2, rfl, rfl⟩)

set_option maxRecDepth 100000 in
theorem b_WriteString_used (b : Nat) (V : Value) (l s : List UInt8) (hl : l.length + s.length ≤ 1000000000) : Tri Tryd.prog 85 #[.pointer (some ⟨b, 0, none⟩), str s] [] [var b [.pointer (some ⟨b, 0, none⟩), V] 115, row V 5 1 (l.map encB)] (fun v L' => ∃ V', v = .tuple #[.int .i64 s.length, .nilIface] ∧ L' = [var b [.pointer (some ⟨b, 0, none⟩), V'] 115, row V' 5 1 ((l ++ s).map encB)]) := by
  refine Tri.enter (args := [.pointer (some ⟨b, 0, none⟩), str s]) (body := _) 19 Tryd.func85 rfl Tryd.ntmps85 rfl ?_
  intro w0
  refine J.seq ?_
  refine J.region ?_
  refine O.p (Pu.assign rfl) rfl ?_
  refine O.p (Pu.assign rfl) rfl ?_
  refine O.nil ?_
  refine J.seq ?_
  refine J.region ?_
  refine O.p (Pu.move rfl) rfl ?_
  refine O.l (Lo.call [.pointer (some ⟨b, 0, none⟩)] (by exact Tryd.call124) rfl (b_copyCheck_used b V) [0] [1] (by decide) rfl _ rfl RoOk.nil) rfl ?_
  rintro _ _ ⟨_, ⟨rfl, rfl⟩, rfl⟩
  refine O.nil ?_
  refine J.seq ?_
  refine J.region ?_
  refine O.p (Pu.move rfl) rfl ?_
  refine O.p (Pu.move rfl) rfl ?_
  refine O.p (Pu.nilCheck rfl) rfl ?_
  refine O.p (Pu.fieldAddr (off' := 1) Tryd.runUnderlying115 rfl Tryd.sizeOf113 rfl rfl rfl) rfl ?_
  refine O.q (Qt.ld rfl (Cel.var 0 rfl) (o := 0) (off := 1) rfl (Cut.one Tryd.isAgg113 rfl)) rfl ?_
  refine O.p (Pu.move rfl) rfl ?_
  refine O.l (Lo.appendStr 1 (by exact Tryd.underlying113) (by exact Tryd.underlying9) (by exact (info5).1) (by exact (info5).2.1) (by exact (info5).2.2.1) (by exact (info5).2.2.2) rfl rfl rfl (by omega)) rfl ?_
  rintro V2 _ rfl
  refine O.p (Pu.nilCheck rfl) rfl ?_
  refine O.p (Pu.fieldAddr (off' := 1) Tryd.runUnderlying115 rfl Tryd.sizeOf113 rfl rfl rfl) rfl ?_
  refine O.one (Src.row 1 rfl) (fun hV3 => ?_)
  refine O.l0 (Lo.store 0 (vs := [V2]) [.pointer (some ⟨b, 0, none⟩), V2] rfl rfl rfl (by exact Tryd.sizeOf113) (one_cells hV3) rfl (one_all hV3) rfl rfl) ?_
  rintro _ _ rfl
  refine O.nil ?_
  refine J.seq ?_
  refine J.region ?_
  refine O.p (Pu.move rfl) rfl ?_
  refine O.p (Pu.sLen Tryd.runUnderlying9 rfl) rfl ?_
  refine O.p (Pu.assign rfl) rfl ?_
  refine O.p (Pu.assign rfl) rfl ?_
  refine O.nil ?_
  exact J.ret (Fin.ret (rs := [.tmp 4, .tmp 5]) rfl [_, _] ⟨rfl, rfl, trivial⟩ [0, 1] (by decide) [var b [.pointer (some ⟨b, 0, none⟩), V2] 115, row V2 5 1 ((l ++ s).map encB)] rfl ⟨V2, rfl, rfl⟩)

set_option maxRecDepth 100000 in
theorem b_String_some (b : Nat) (pv V : Value) (l : List UInt8) (hne : l ≠ []) : Tri Tryd.prog 86 #[.pointer (some ⟨b, 0, none⟩)] [] [var b [pv, V] 115, row V 5 1 (l.map encB)] (fun v L' => v = str l ∧ L' = []) := by
  refine Tri.enter (args := [.pointer (some ⟨b, 0, none⟩)]) (body := _) 14 Tryd.func86 rfl Tryd.ntmps86 rfl ?_
  intro w0
  refine J.seq ?_
  refine J.region ?_
  refine O.p (Pu.assign rfl) rfl ?_
  refine O.nil ?_
  refine J.seq ?_
  refine J.drawTail 10 Tryd.mixed (by kernel_rfl) ?_
  refine S.p (Pu.move rfl) rfl ?_
  refine S.p (Pu.nilCheck rfl) rfl ?_
  refine S.p (Pu.fieldAddr (off' := 1) Tryd.runUnderlying115 rfl Tryd.sizeOf113 rfl rfl rfl) rfl ?_
  refine S.q (Qt.ld rfl (Cel.var 0 rfl) (o := 0) (off := 1) rfl (Cut.one Tryd.isAgg113 rfl)) rfl ?_
  refine S.q (Qt.sliceData 1 rfl rfl hne) rfl ?_
  refine S.p (Pu.move rfl) rfl ?_
  refine S.p (Pu.nilCheck rfl) rfl ?_
  refine S.p (Pu.fieldAddr (off' := 1) Tryd.runUnderlying115 rfl Tryd.sizeOf113 rfl rfl rfl) rfl ?_
  refine S.q (Qt.ld rfl (Cel.var 0 rfl) (o := 0) (off := 1) rfl (Cut.one Tryd.isAgg113 rfl)) rfl ?_
  refine S.q (Qt.lenM Tryd.runUnderlying113 rfl (Src.row 1 rfl)) rfl ?_
  refine S.endO ?_
  refine O.l (Lo.unsafeString 1 (L' := [var b [pv, V] 115]) (by exact Tryd.underlying156) (by kernel_rfl) rfl rfl rfl hne rfl) rfl ?_
  rintro _ _ ⟨rfl, rfl⟩
  refine O.p (Pu.assign rfl) rfl ?_
  refine O.nil ?_
  exact J.ret (Fin.ret (rs := [.tmp 2]) rfl [_] ⟨rfl, trivial⟩ [] (by decide) [] rfl ⟨rfl, rfl⟩)

set_option maxRecDepth 100000 in
theorem b_String_none (b : Nat) (pv : Value) : Tri Tryd.prog 86 #[.pointer (some ⟨b, 0, none⟩)] [] [var b [pv, Value.slice none 0 0] 115, row (Value.slice none 0 0) 5 1 (([] : List UInt8).map encB)] (fun v L' => v = str [] ∧ L' = []) := by
  refine Tri.enter (args := [.pointer (some ⟨b, 0, none⟩)]) (body := _) 14 Tryd.func86 rfl Tryd.ntmps86 rfl ?_
  intro w0
  refine J.seq ?_
  refine J.region ?_
  refine O.p (Pu.assign rfl) rfl ?_
  refine O.nil ?_
  refine J.seq ?_
  refine J.drawTail 10 Tryd.mixed (by kernel_rfl) ?_
  refine S.p (Pu.move rfl) rfl ?_
  refine S.p (Pu.nilCheck rfl) rfl ?_
  refine S.p (Pu.fieldAddr (off' := 1) Tryd.runUnderlying115 rfl Tryd.sizeOf113 rfl rfl rfl) rfl ?_
  refine S.q (Qt.ld rfl (Cel.var 0 rfl) (o := 0) (off := 1) rfl (Cut.one Tryd.isAgg113 rfl)) rfl ?_
  refine S.p (Pu.sliceDataNil rfl) rfl ?_
  refine S.p (Pu.move rfl) rfl ?_
  refine S.p (Pu.nilCheck rfl) rfl ?_
  refine S.p (Pu.fieldAddr (off' := 1) Tryd.runUnderlying115 rfl Tryd.sizeOf113 rfl rfl rfl) rfl ?_
  refine S.q (Qt.ld rfl (Cel.var 0 rfl) (o := 0) (off := 1) rfl (Cut.one Tryd.isAgg113 rfl)) rfl ?_
  refine S.q (Qt.lenM Tryd.runUnderlying113 rfl (Src.row 1 rfl)) rfl ?_
  refine S.endO ?_
  refine O.p (Pu.unsafeStringNil rfl rfl) rfl ?_
  refine O.p (Pu.assign rfl) rfl ?_
  refine O.nil ?_
  exact J.ret (Fin.ret (rs := [.tmp 2]) rfl [_] ⟨rfl, trivial⟩ [] (by decide) [] rfl ⟨rfl, rfl⟩)

end Go.Proofs.YtnfkoohgdcocdaaDoor
