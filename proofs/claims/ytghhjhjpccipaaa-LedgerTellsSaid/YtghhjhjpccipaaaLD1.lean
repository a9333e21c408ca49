/-
  Walks, printed by a program of mine (lk.py): each function meets its contract.
-/
import Derived.KernelRfl
import Derived.Test.YtghhjhjpccipaaaNums41
import Derived.Test.YtghhjhjpccipaaaLedger0
namespace Go.Proofs.Ytghhjhjpccipaaa
open Go Go.LK
set_option linter.unusedSimpArgs false

set_option maxRecDepth 100000 in
theorem ld_open (x : Ft) : Tri Try.prog 74 #[.agg #[.int .i64 x.s, .int .i64 x.id, .int .i64 x.state, .int .i64 x.level, .int .i64 x.code, .int .i64 x.came, .int .i64 x.began, .int .i64 x.ended]] [] [] (fun v L' => v = .bool (Ld.isOpen x) ∧ L' = []) := by
  refine Tri.enter (args := [.agg #[.int .i64 x.s, .int .i64 x.id, .int .i64 x.state, .int .i64 x.level, .int .i64 x.code, .int .i64 x.came, .int .i64 x.began, .int .i64 x.ended]]) (body := _) 11 Try.func74 rfl Try.ntmps74 rfl ?_
  intro w0
  refine J.seq ?_
  refine J.region ?_
  refine O.l (Lo.box [.int .i64 x.s, .int .i64 x.id, .int .i64 x.state, .int .i64 x.level, .int .i64 x.code, .int .i64 x.came, .int .i64 x.began, .int .i64 x.ended] rfl rfl) rfl ?_
  rintro _ _ ⟨g1, rfl, rfl⟩
  refine O.p (Pu.assign rfl) rfl ?_
  refine O.nil ?_
  refine J.seq ?_
  refine J.region ?_
  refine O.p (Pu.fieldAddr (off' := 2) Try.runUnderlying61 rfl Try.sizeOf3 rfl rfl rfl) rfl ?_
  refine O.q (Qt.ld rfl (Cel.var 0 rfl) (o := 0) (off := 2) rfl (Cut.one Try.isAgg3 rfl)) rfl ?_
  refine O.p (Pu.geq rfl rfl) rfl ?_
  refine O.p (Pu.move rfl) rfl ?_
  refine by_bool (decide (1 ≤ x.state)) (fun h2 => ?_) (fun h2 => ?_)
  ·
    have p3 := of_decide_eq_true h2
    refine O.gq (t := 6) rfl rfl h2 rfl (Pu.qt (Pu.fieldAddr (off' := 2) Try.runUnderlying61 rfl Try.sizeOf3 rfl rfl rfl)) rfl ?_
    refine O.gq (t := 6) rfl rfl h2 rfl (Qt.ld rfl (Cel.var 0 rfl) (o := 0) (off := 2) rfl (Cut.one Try.isAgg3 rfl)) rfl ?_
    refine O.gq (t := 6) rfl rfl h2 rfl (Pu.qt (Pu.leq rfl rfl)) rfl ?_
    refine O.p (Pu.pickT rfl h2 rfl) rfl ?_
    refine O.p (Pu.assign rfl) rfl ?_
    refine O.nil ?_
    exact J.ret (Fin.ret (rs := [.tmp 2]) rfl [_] ⟨rfl, trivial⟩ [] (by decide) [] rfl ⟨by simp [vOf, Ld.isOpen, *], rfl⟩)
  ·
    have p4 := of_decide_eq_false h2
    refine O.gskip (t := 6) rfl rfl (no_bool (by rw [h2]; decide)) rfl rfl ?_
    refine O.gskip (t := 6) rfl rfl (no_bool (by rw [h2]; decide)) rfl rfl ?_
    refine O.gskip (t := 6) rfl rfl (no_bool (by rw [h2]; decide)) rfl rfl ?_
    refine O.p (Pu.pickF rfl h2 rfl) rfl ?_
    refine O.p (Pu.assign rfl) rfl ?_
    refine O.nil ?_
    exact J.ret (Fin.ret (rs := [.tmp 2]) rfl [_] ⟨rfl, trivial⟩ [] (by decide) [] rfl ⟨by simp [vOf, Ld.isOpen, *], rfl⟩)

set_option maxRecDepth 100000 in
theorem ld_there (x : Ft) : Tri Try.prog 97 #[.agg #[.int .i64 x.s, .int .i64 x.id, .int .i64 x.state, .int .i64 x.level, .int .i64 x.code, .int .i64 x.came, .int .i64 x.began, .int .i64 x.ended]] [] [] (fun v L' => v = .bool (Ld.there x) ∧ L' = []) := by
  refine Tri.enter (args := [.agg #[.int .i64 x.s, .int .i64 x.id, .int .i64 x.state, .int .i64 x.level, .int .i64 x.code, .int .i64 x.came, .int .i64 x.began, .int .i64 x.ended]]) (body := _) 11 Try.func97 rfl Try.ntmps97 rfl ?_
  intro w0
  refine J.seq ?_
  refine J.region ?_
  refine O.l (Lo.box [.int .i64 x.s, .int .i64 x.id, .int .i64 x.state, .int .i64 x.level, .int .i64 x.code, .int .i64 x.came, .int .i64 x.began, .int .i64 x.ended] rfl rfl) rfl ?_
  rintro _ _ ⟨g1, rfl, rfl⟩
  refine O.p (Pu.assign rfl) rfl ?_
  refine O.nil ?_
  refine J.seq ?_
  refine J.region ?_
  refine O.p (Pu.fieldAddr (off' := 2) Try.runUnderlying61 rfl Try.sizeOf3 rfl rfl rfl) rfl ?_
  refine O.q (Qt.ld rfl (Cel.var 0 rfl) (o := 0) (off := 2) rfl (Cut.one Try.isAgg3 rfl)) rfl ?_
  refine O.p (Pu.eql rfl rfl) rfl ?_
  refine O.p (Pu.move rfl) rfl ?_
  refine by_bool (decide (x.state = 2)) (fun h2 => ?_) (fun h2 => ?_)
  ·
    have p3 := of_decide_eq_true h2
    refine O.gskip (t := 6) rfl rfl (no_bool (by rw [h2]; decide)) rfl rfl ?_
    refine O.gskip (t := 6) rfl rfl (no_bool (by rw [h2]; decide)) rfl rfl ?_
    refine O.gskip (t := 6) rfl rfl (no_bool (by rw [h2]; decide)) rfl rfl ?_
    refine O.p (Pu.pickT rfl h2 rfl) rfl ?_
    refine O.p (Pu.assign rfl) rfl ?_
    refine O.nil ?_
    exact J.ret (Fin.ret (rs := [.tmp 2]) rfl [_] ⟨rfl, trivial⟩ [] (by decide) [] rfl ⟨by simp [vOf, Ld.there, *], rfl⟩)
  ·
    have p4 := of_decide_eq_false h2
    refine O.gq (t := 6) rfl rfl h2 rfl (Pu.qt (Pu.fieldAddr (off' := 2) Try.runUnderlying61 rfl Try.sizeOf3 rfl rfl rfl)) rfl ?_
    refine O.gq (t := 6) rfl rfl h2 rfl (Qt.ld rfl (Cel.var 0 rfl) (o := 0) (off := 2) rfl (Cut.one Try.isAgg3 rfl)) rfl ?_
    refine O.gq (t := 6) rfl rfl h2 rfl (Pu.qt (Pu.eql rfl rfl)) rfl ?_
    refine O.p (Pu.pickF rfl h2 rfl) rfl ?_
    refine O.p (Pu.assign rfl) rfl ?_
    refine O.nil ?_
    exact J.ret (Fin.ret (rs := [.tmp 2]) rfl [_] ⟨rfl, trivial⟩ [] (by decide) [] rfl ⟨by simp [vOf, Ld.there, *], rfl⟩)

set_option maxRecDepth 100000 in
theorem ld_may1 (x : Ft) (e : Ev) : Tri Try.prog 90 #[.agg #[.int .i64 x.s, .int .i64 x.id, .int .i64 x.state, .int .i64 x.level, .int .i64 x.code, .int .i64 x.came, .int .i64 x.began, .int .i64 x.ended], .agg #[.int .i64 e.kind, .int .i64 e.tick, .int .i64 e.s, .int .i64 e.id, .int .i64 e.code, .int .i64 e.a, .int .i64 e.b]] [] [] (fun v L' => v = .bool (Ld.may 5 x e) ∧ L' = []) := by
  refine Tri.enter (args := [.agg #[.int .i64 x.s, .int .i64 x.id, .int .i64 x.state, .int .i64 x.level, .int .i64 x.code, .int .i64 x.came, .int .i64 x.began, .int .i64 x.ended], .agg #[.int .i64 e.kind, .int .i64 e.tick, .int .i64 e.s, .int .i64 e.id, .int .i64 e.code, .int .i64 e.a, .int .i64 e.b]]) (body := _) 8 Try.func90 rfl Try.ntmps90 rfl ?_
  intro w0
  refine J.seq ?_
  refine J.region ?_
  refine O.l (Lo.box [.int .i64 x.s, .int .i64 x.id, .int .i64 x.state, .int .i64 x.level, .int .i64 x.code, .int .i64 x.came, .int .i64 x.began, .int .i64 x.ended] rfl rfl) rfl ?_
  rintro _ _ ⟨g1, rfl, rfl⟩
  refine O.l (Lo.box [.int .i64 e.kind, .int .i64 e.tick, .int .i64 e.s, .int .i64 e.id, .int .i64 e.code, .int .i64 e.a, .int .i64 e.b] rfl rfl) rfl ?_
  rintro _ _ ⟨g2, rfl, rfl⟩
  refine O.p (Pu.assign rfl) rfl ?_
  refine O.nil ?_
  refine J.seq ?_
  refine J.region ?_
  refine O.p (Pu.fieldAddr (off' := 2) Try.runUnderlying61 rfl Try.sizeOf3 rfl rfl rfl) rfl ?_
  refine O.q (Qt.ld rfl (Cel.var 1 rfl) (o := 0) (off := 2) rfl (Cut.one Try.isAgg3 rfl)) rfl ?_
  refine O.p (Pu.eql rfl rfl) rfl ?_
  refine O.p (Pu.assign rfl) rfl ?_
  refine O.nil ?_
  exact J.ret (Fin.ret (rs := [.tmp 4]) rfl [_] ⟨rfl, trivial⟩ [] (by decide) [] rfl ⟨by simp [vOf, Ld.may, *], rfl⟩)

set_option maxRecDepth 100000 in
theorem ld_does2 (m : Int) (x : Ft) (e : Ev) (V : Value) (out : List Ft) (hx : out[(m).toNat]? = some x) : Tri Try.prog 91 #[.pointer (some ⟨(vblk V), voff V + (m).toNat * 8, none⟩), .agg #[.int .i64 e.kind, .int .i64 e.tick, .int .i64 e.s, .int .i64 e.id, .int .i64 e.code, .int .i64 e.a, .int .i64 e.b]] [] [row V 61 8 (out.map Ft.cells)] (fun v L' => v = .tuple #[] ∧ L' = [row V 61 8 ((out.set (m).toNat (Ld.does 5 x e)).map Ft.cells)]) := by
  refine Tri.enter (args := [.pointer (some ⟨(vblk V), voff V + (m).toNat * 8, none⟩), .agg #[.int .i64 e.kind, .int .i64 e.tick, .int .i64 e.s, .int .i64 e.id, .int .i64 e.code, .int .i64 e.a, .int .i64 e.b]]) (body := _) 4 Try.func91 rfl Try.ntmps91 rfl ?_
  intro w0
  refine J.region ?_
  refine O.l (Lo.box [.int .i64 e.kind, .int .i64 e.tick, .int .i64 e.s, .int .i64 e.id, .int .i64 e.code, .int .i64 e.a, .int .i64 e.b] rfl rfl) rfl ?_
  rintro _ _ ⟨g1, rfl, rfl⟩
  refine O.nil ?_
  exact J.done (Fin.ret (rs := []) rfl [] trivial [1] (by decide) [row V 61 8 (out.map Ft.cells)] rfl ⟨rfl, congrArg (fun (o : List Ft) => ([row V 61 8 (o.map Ft.cells)] : List Sp)) (by simp [Ld.does, List.set_getElem_self, Ld.set_same hx])⟩)

set_option maxRecDepth 100000 in
theorem ld_may3 (x : Ft) (e : Ev) : Tri Try.prog 92 #[.agg #[.int .i64 x.s, .int .i64 x.id, .int .i64 x.state, .int .i64 x.level, .int .i64 x.code, .int .i64 x.came, .int .i64 x.began, .int .i64 x.ended], .agg #[.int .i64 e.kind, .int .i64 e.tick, .int .i64 e.s, .int .i64 e.id, .int .i64 e.code, .int .i64 e.a, .int .i64 e.b]] [] [] (fun v L' => v = .bool (Ld.may 3 x e) ∧ L' = []) := by
  refine Tri.enter (args := [.agg #[.int .i64 x.s, .int .i64 x.id, .int .i64 x.state, .int .i64 x.level, .int .i64 x.code, .int .i64 x.came, .int .i64 x.began, .int .i64 x.ended], .agg #[.int .i64 e.kind, .int .i64 e.tick, .int .i64 e.s, .int .i64 e.id, .int .i64 e.code, .int .i64 e.a, .int .i64 e.b]]) (body := _) 8 Try.func92 rfl Try.ntmps92 rfl ?_
  intro w0
  refine J.seq ?_
  refine J.region ?_
  refine O.l (Lo.box [.int .i64 x.s, .int .i64 x.id, .int .i64 x.state, .int .i64 x.level, .int .i64 x.code, .int .i64 x.came, .int .i64 x.began, .int .i64 x.ended] rfl rfl) rfl ?_
  rintro _ _ ⟨g1, rfl, rfl⟩
  refine O.l (Lo.box [.int .i64 e.kind, .int .i64 e.tick, .int .i64 e.s, .int .i64 e.id, .int .i64 e.code, .int .i64 e.a, .int .i64 e.b] rfl rfl) rfl ?_
  rintro _ _ ⟨g2, rfl, rfl⟩
  refine O.p (Pu.assign rfl) rfl ?_
  refine O.nil ?_
  refine J.seq ?_
  refine J.region ?_
  refine O.p (Pu.fieldAddr (off' := 2) Try.runUnderlying61 rfl Try.sizeOf3 rfl rfl rfl) rfl ?_
  refine O.q (Qt.ld rfl (Cel.var 1 rfl) (o := 0) (off := 2) rfl (Cut.one Try.isAgg3 rfl)) rfl ?_
  refine O.p (Pu.eql rfl rfl) rfl ?_
  refine O.p (Pu.assign rfl) rfl ?_
  refine O.nil ?_
  exact J.ret (Fin.ret (rs := [.tmp 4]) rfl [_] ⟨rfl, trivial⟩ [] (by decide) [] rfl ⟨by simp [vOf, Ld.may, *], rfl⟩)

set_option maxRecDepth 100000 in
theorem ld_does4 (m : Int) (x : Ft) (e : Ev) (V : Value) (out : List Ft) (hx : out[(m).toNat]? = some x) : Tri Try.prog 93 #[.pointer (some ⟨(vblk V), voff V + (m).toNat * 8, none⟩), .agg #[.int .i64 e.kind, .int .i64 e.tick, .int .i64 e.s, .int .i64 e.id, .int .i64 e.code, .int .i64 e.a, .int .i64 e.b]] [] [row V 61 8 (out.map Ft.cells)] (fun v L' => v = .tuple #[] ∧ L' = [row V 61 8 ((out.set (m).toNat (Ld.does 3 x e)).map Ft.cells)]) := by
  refine Tri.enter (args := [.pointer (some ⟨(vblk V), voff V + (m).toNat * 8, none⟩), .agg #[.int .i64 e.kind, .int .i64 e.tick, .int .i64 e.s, .int .i64 e.id, .int .i64 e.code, .int .i64 e.a, .int .i64 e.b]]) (body := _) 12 Try.func93 rfl Try.ntmps93 rfl ?_
  intro w0
  refine J.seq ?_
  refine J.region ?_
  refine O.l (Lo.box [.int .i64 e.kind, .int .i64 e.tick, .int .i64 e.s, .int .i64 e.id, .int .i64 e.code, .int .i64 e.a, .int .i64 e.b] rfl rfl) rfl ?_
  rintro _ _ ⟨g1, rfl, rfl⟩
  refine O.nil ?_
  refine J.drawMix [(0, false), (1, false), (2, false), (3, false), (4, false), (5, false), (6, true), (7, false), (8, false), (9, true)] [0] [var g1 [.int .i64 e.kind, .int .i64 e.tick, .int .i64 e.s, .int .i64 e.id, .int .i64 e.code, .int .i64 e.a, .int .i64 e.b] 93] Try.mixed (by kernel_rfl) (by decide) rfl ?_
  refine Mx.p rfl (Pu.move rfl) rfl ?_
  refine Mx.p rfl (Pu.move rfl) rfl ?_
  refine Mx.p rfl (Pu.fieldAddr (off' := 1) Try.runUnderlying93 rfl Try.sizeOf3 rfl rfl rfl) rfl ?_
  refine Mx.q rfl (Qt.ld rfl (Cel.var 0 rfl) (o := 0) (off := 1) rfl (Cut.one Try.isAgg3 rfl)) rfl ?_
  refine Mx.p rfl (Pu.nilCheck rfl) rfl ?_
  refine Mx.p rfl (Pu.fieldAddr (off' := voff V + (m).toNat * 8 + 2) Try.runUnderlying61 rfl Try.sizeOf3 rfl rfl rfl) rfl ?_
  refine Mx.l0 rfl (Lo.storeM 1 (j := (m).toNat) (off := 2) (vs := [.int .i64 3]) (e := [.int .i64 x.s, .int .i64 x.id, .int .i64 x.state, .int .i64 x.level, .int .i64 x.code, .int .i64 x.came, .int .i64 x.began, .int .i64 x.ended]) ({ x with state := 3 }) rfl rfl rfl rfl (by omega) hx rfl (by exact Try.sizeOf3) rfl rfl rfl rfl rfl) ?_
  rintro _ _ rfl
  have hs2 : (out.set (m).toNat ({ x with state := 3 }))[(m).toNat]? = some ({ x with state := 3 }) := List.getElem?_set_self (List.getElem?_eq_some_iff.1 hx).1
  refine MxK.go [0] [0] [var g1 [.int .i64 e.kind, .int .i64 e.tick, .int .i64 e.s, .int .i64 e.id, .int .i64 e.code, .int .i64 e.a, .int .i64 e.b] 93] (by decide) rfl (by decide) rfl ?_
  refine Mx.p rfl (Pu.nilCheck rfl) rfl ?_
  refine Mx.p rfl (Pu.fieldAddr (off' := voff V + (m).toNat * 8 + 6) Try.runUnderlying61 rfl Try.sizeOf3 rfl rfl rfl) rfl ?_
  refine Mx.l0 rfl (Lo.storeM 1 (j := (m).toNat) (off := 6) (vs := [.int .i64 e.tick]) (e := [.int .i64 (({ x with state := 3 }).s), .int .i64 (({ x with state := 3 }).id), .int .i64 (({ x with state := 3 }).state), .int .i64 (({ x with state := 3 }).level), .int .i64 (({ x with state := 3 }).code), .int .i64 (({ x with state := 3 }).came), .int .i64 (({ x with state := 3 }).began), .int .i64 (({ x with state := 3 }).ended)]) ({ { x with state := 3 } with began := e.tick }) rfl rfl rfl rfl (by omega) hs2 rfl (by exact Try.sizeOf3) rfl rfl rfl rfl rfl) ?_
  rintro _ _ rfl
  have hs3 : ((out.set (m).toNat ({ x with state := 3 })).set (m).toNat ({ { x with state := 3 } with began := e.tick }))[(m).toNat]? = some ({ { x with state := 3 } with began := e.tick }) := List.getElem?_set_self (List.getElem?_eq_some_iff.1 hs2).1
  refine MxK.all [0] [var g1 [.int .i64 e.kind, .int .i64 e.tick, .int .i64 e.s, .int .i64 e.id, .int .i64 e.code, .int .i64 e.a, .int .i64 e.b] 93] (by decide) rfl (by kernel_rfl) ?_
  refine Mx.nil ?_
  exact J.done (Fin.ret (rs := []) rfl [] trivial [1] (by decide) [row V 61 8 (((out.set (m).toNat ({ x with state := 3 })).set (m).toNat ({ { x with state := 3 } with began := e.tick })).map Ft.cells)] rfl ⟨rfl, congrArg (fun (o : List Ft) => ([row V 61 8 (o.map Ft.cells)] : List Sp)) (by simp [Ld.does])⟩)

set_option maxRecDepth 100000 in
theorem ld_may5 (x : Ft) (e : Ev) : Tri Try.prog 94 #[.agg #[.int .i64 x.s, .int .i64 x.id, .int .i64 x.state, .int .i64 x.level, .int .i64 x.code, .int .i64 x.came, .int .i64 x.began, .int .i64 x.ended], .agg #[.int .i64 e.kind, .int .i64 e.tick, .int .i64 e.s, .int .i64 e.id, .int .i64 e.code, .int .i64 e.a, .int .i64 e.b]] [] [] (fun v L' => v = .bool (Ld.may 4 x e) ∧ L' = []) := by
  refine Tri.enter (args := [.agg #[.int .i64 x.s, .int .i64 x.id, .int .i64 x.state, .int .i64 x.level, .int .i64 x.code, .int .i64 x.came, .int .i64 x.began, .int .i64 x.ended], .agg #[.int .i64 e.kind, .int .i64 e.tick, .int .i64 e.s, .int .i64 e.id, .int .i64 e.code, .int .i64 e.a, .int .i64 e.b]]) (body := _) 19 Try.func94 rfl Try.ntmps94 rfl ?_
  intro w0
  refine J.seq ?_
  refine J.region ?_
  refine O.l (Lo.box [.int .i64 x.s, .int .i64 x.id, .int .i64 x.state, .int .i64 x.level, .int .i64 x.code, .int .i64 x.came, .int .i64 x.began, .int .i64 x.ended] rfl rfl) rfl ?_
  rintro _ _ ⟨g1, rfl, rfl⟩
  refine O.l (Lo.box [.int .i64 e.kind, .int .i64 e.tick, .int .i64 e.s, .int .i64 e.id, .int .i64 e.code, .int .i64 e.a, .int .i64 e.b] rfl rfl) rfl ?_
  rintro _ _ ⟨g2, rfl, rfl⟩
  refine O.p (Pu.assign rfl) rfl ?_
  refine O.nil ?_
  refine J.seq ?_
  refine J.region ?_
  refine O.q (Qt.ld rfl (Cel.var 1 rfl) (o := 0) (off := 0) rfl (Cut.agg [.int .i64 x.s, .int .i64 x.id, .int .i64 x.state, .int .i64 x.level, .int .i64 x.code, .int .i64 x.came, .int .i64 x.began, .int .i64 x.ended] Try.isAgg61 Try.sizeOf61 rfl rfl)) rfl ?_
  refine O.l (Lo.call [.agg #[.int .i64 x.s, .int .i64 x.id, .int .i64 x.state, .int .i64 x.level, .int .i64 x.code, .int .i64 x.came, .int .i64 x.began, .int .i64 x.ended]] (by exact Try.call74) rfl (ld_open x) [] [0, 1] (by decide) rfl _ rfl RoOk.nil) rfl ?_
  rintro _ _ ⟨_, ⟨rfl, rfl⟩, rfl⟩
  refine O.p (Pu.move rfl) rfl ?_
  refine by_bool (Ld.isOpen x) (fun h4 => ?_) (fun h4 => ?_)
  ·
    refine O.gq (t := 7) rfl rfl h4 rfl (Pu.qt (Pu.fieldAddr (off' := 2) Try.runUnderlying61 rfl Try.sizeOf3 rfl rfl rfl)) rfl ?_
    refine O.gq (t := 7) rfl rfl h4 rfl (Qt.ld rfl (Cel.var 1 rfl) (o := 0) (off := 2) rfl (Cut.one Try.isAgg3 rfl)) rfl ?_
    refine O.gq (t := 7) rfl rfl h4 rfl (Pu.qt (Pu.neq rfl rfl)) rfl ?_
    refine O.gq (t := 7) rfl rfl h4 rfl (Pu.qt (Pu.move rfl)) rfl ?_
    refine by_bool (decide (x.state ≠ 1)) (fun h5 => ?_) (fun h5 => ?_)
    ·
      have p6 := of_decide_eq_true h5
      refine O.gskip (t := 11) rfl rfl (no_bool (by rw [h5]; decide)) rfl rfl ?_
      refine O.gskip (t := 11) rfl rfl (no_bool (by rw [h5]; decide)) rfl rfl ?_
      refine O.gskip (t := 11) rfl rfl (no_bool (by rw [h5]; decide)) rfl rfl ?_
      refine O.gskip (t := 11) rfl rfl (no_bool (by rw [h5]; decide)) rfl rfl ?_
      refine O.gskip (t := 11) rfl rfl (no_bool (by rw [h5]; decide)) rfl rfl ?_
      refine O.gq (t := 7) rfl rfl h4 rfl (Pu.qt (Pu.pickT rfl h5 rfl)) rfl ?_
      refine O.p (Pu.pickT rfl h4 rfl) rfl ?_
      refine O.p (Pu.assign rfl) rfl ?_
      refine O.nil ?_
      exact J.ret (Fin.ret (rs := [.tmp 4]) rfl [_] ⟨rfl, trivial⟩ [] (by decide) [] rfl ⟨by simp [vOf, Ld.may, *], rfl⟩)
    ·
      have p7 := of_decide_eq_false h5
      refine O.gq (t := 11) rfl rfl h5 rfl (Pu.qt (Pu.fieldAddr (off' := 4) Try.runUnderlying61 rfl Try.sizeOf3 rfl rfl rfl)) rfl ?_
      refine O.gq (t := 11) rfl rfl h5 rfl (Qt.ld rfl (Cel.var 1 rfl) (o := 0) (off := 4) rfl (Cut.one Try.isAgg3 rfl)) rfl ?_
      refine O.gq (t := 11) rfl rfl h5 rfl (Pu.qt (Pu.fieldAddr (off' := 4) Try.runUnderlying93 rfl Try.sizeOf3 rfl rfl rfl)) rfl ?_
      refine O.gq (t := 11) rfl rfl h5 rfl (Qt.ld rfl (Cel.var 0 rfl) (o := 0) (off := 4) rfl (Cut.one Try.isAgg3 rfl)) rfl ?_
      refine O.gq (t := 11) rfl rfl h5 rfl (Pu.qt (Pu.eql rfl rfl)) rfl ?_
      refine O.gq (t := 7) rfl rfl h4 rfl (Pu.qt (Pu.pickF rfl h5 rfl)) rfl ?_
      refine O.p (Pu.pickT rfl h4 rfl) rfl ?_
      refine O.p (Pu.assign rfl) rfl ?_
      refine O.nil ?_
      exact J.ret (Fin.ret (rs := [.tmp 4]) rfl [_] ⟨rfl, trivial⟩ [] (by decide) [] rfl ⟨by simp [vOf, Ld.may, *], rfl⟩)
  ·
    refine O.gskip (t := 7) rfl rfl (no_bool (by rw [h4]; decide)) rfl rfl ?_
    refine O.gskip (t := 7) rfl rfl (no_bool (by rw [h4]; decide)) rfl rfl ?_
    refine O.gskip (t := 7) rfl rfl (no_bool (by rw [h4]; decide)) rfl rfl ?_
    refine O.gskip (t := 7) rfl rfl (no_bool (by rw [h4]; decide)) rfl rfl ?_
    refine O.gskip (t := 11) rfl rfl (no_undef _) rfl rfl ?_
    refine O.gskip (t := 11) rfl rfl (no_undef _) rfl rfl ?_
    refine O.gskip (t := 11) rfl rfl (no_undef _) rfl rfl ?_
    refine O.gskip (t := 11) rfl rfl (no_undef _) rfl rfl ?_
    refine O.gskip (t := 11) rfl rfl (no_undef _) rfl rfl ?_
    refine O.gskip (t := 7) rfl rfl (no_bool (by rw [h4]; decide)) rfl rfl ?_
    refine O.p (Pu.pickF rfl h4 rfl) rfl ?_
    refine O.p (Pu.assign rfl) rfl ?_
    refine O.nil ?_
    exact J.ret (Fin.ret (rs := [.tmp 4]) rfl [_] ⟨rfl, trivial⟩ [] (by decide) [] rfl ⟨by simp [vOf, Ld.may, *], rfl⟩)

set_option maxRecDepth 100000 in
theorem ld_does6 (m : Int) (x : Ft) (e : Ev) (V : Value) (out : List Ft) (hx : out[(m).toNat]? = some x) : Tri Try.prog 95 #[.pointer (some ⟨(vblk V), voff V + (m).toNat * 8, none⟩), .agg #[.int .i64 e.kind, .int .i64 e.tick, .int .i64 e.s, .int .i64 e.id, .int .i64 e.code, .int .i64 e.a, .int .i64 e.b]] [] [row V 61 8 (out.map Ft.cells)] (fun v L' => v = .tuple #[] ∧ L' = [row V 61 8 ((out.set (m).toNat (Ld.does 4 x e)).map Ft.cells)]) := by
  refine Tri.enter (args := [.pointer (some ⟨(vblk V), voff V + (m).toNat * 8, none⟩), .agg #[.int .i64 e.kind, .int .i64 e.tick, .int .i64 e.s, .int .i64 e.id, .int .i64 e.code, .int .i64 e.a, .int .i64 e.b]]) (body := _) 17 Try.func95 rfl Try.ntmps95 rfl ?_
  intro w0
  refine J.seq ?_
  refine J.region ?_
  refine O.l (Lo.box [.int .i64 e.kind, .int .i64 e.tick, .int .i64 e.s, .int .i64 e.id, .int .i64 e.code, .int .i64 e.a, .int .i64 e.b] rfl rfl) rfl ?_
  rintro _ _ ⟨g1, rfl, rfl⟩
  refine O.nil ?_
  refine J.drawMix [(0, false), (1, false), (2, false), (3, false), (4, false), (5, false), (6, false), (7, false), (8, false), (9, true), (10, false), (11, false), (12, true), (13, false), (14, false), (15, true)] [0] [var g1 [.int .i64 e.kind, .int .i64 e.tick, .int .i64 e.s, .int .i64 e.id, .int .i64 e.code, .int .i64 e.a, .int .i64 e.b] 93] Try.mixed (by kernel_rfl) (by decide) rfl ?_
  refine Mx.p rfl (Pu.move rfl) rfl ?_
  refine Mx.p rfl (Pu.move rfl) rfl ?_
  refine Mx.p rfl (Pu.move rfl) rfl ?_
  refine Mx.p rfl (Pu.fieldAddr (off' := 4) Try.runUnderlying93 rfl Try.sizeOf3 rfl rfl rfl) rfl ?_
  refine Mx.q rfl (Qt.ld rfl (Cel.var 0 rfl) (o := 0) (off := 4) rfl (Cut.one Try.isAgg3 rfl)) rfl ?_
  refine Mx.p rfl (Pu.fieldAddr (off' := 1) Try.runUnderlying93 rfl Try.sizeOf3 rfl rfl rfl) rfl ?_
  refine Mx.q rfl (Qt.ld rfl (Cel.var 0 rfl) (o := 0) (off := 1) rfl (Cut.one Try.isAgg3 rfl)) rfl ?_
  refine Mx.p rfl (Pu.nilCheck rfl) rfl ?_
  refine Mx.p rfl (Pu.fieldAddr (off' := voff V + (m).toNat * 8 + 2) Try.runUnderlying61 rfl Try.sizeOf3 rfl rfl rfl) rfl ?_
  refine Mx.l0 rfl (Lo.storeM 1 (j := (m).toNat) (off := 2) (vs := [.int .i64 4]) (e := [.int .i64 x.s, .int .i64 x.id, .int .i64 x.state, .int .i64 x.level, .int .i64 x.code, .int .i64 x.came, .int .i64 x.began, .int .i64 x.ended]) ({ x with state := 4 }) rfl rfl rfl rfl (by omega) hx rfl (by exact Try.sizeOf3) rfl rfl rfl rfl rfl) ?_
  rintro _ _ rfl
  have hs2 : (out.set (m).toNat ({ x with state := 4 }))[(m).toNat]? = some ({ x with state := 4 }) := List.getElem?_set_self (List.getElem?_eq_some_iff.1 hx).1
  refine MxK.go [0] [0] [var g1 [.int .i64 e.kind, .int .i64 e.tick, .int .i64 e.s, .int .i64 e.id, .int .i64 e.code, .int .i64 e.a, .int .i64 e.b] 93] (by decide) rfl (by decide) rfl ?_
  refine Mx.p rfl (Pu.nilCheck rfl) rfl ?_
  refine Mx.p rfl (Pu.fieldAddr (off' := voff V + (m).toNat * 8 + 4) Try.runUnderlying61 rfl Try.sizeOf3 rfl rfl rfl) rfl ?_
  refine Mx.l0 rfl (Lo.storeM 1 (j := (m).toNat) (off := 4) (vs := [.int .i64 e.code]) (e := [.int .i64 (({ x with state := 4 }).s), .int .i64 (({ x with state := 4 }).id), .int .i64 (({ x with state := 4 }).state), .int .i64 (({ x with state := 4 }).level), .int .i64 (({ x with state := 4 }).code), .int .i64 (({ x with state := 4 }).came), .int .i64 (({ x with state := 4 }).began), .int .i64 (({ x with state := 4 }).ended)]) ({ { x with state := 4 } with code := e.code }) rfl rfl rfl rfl (by omega) hs2 rfl (by exact Try.sizeOf3) rfl rfl rfl rfl rfl) ?_
  rintro _ _ rfl
  have hs3 : ((out.set (m).toNat ({ x with state := 4 })).set (m).toNat ({ { x with state := 4 } with code := e.code }))[(m).toNat]? = some ({ { x with state := 4 } with code := e.code }) := List.getElem?_set_self (List.getElem?_eq_some_iff.1 hs2).1
  refine MxK.go [0] [0] [var g1 [.int .i64 e.kind, .int .i64 e.tick, .int .i64 e.s, .int .i64 e.id, .int .i64 e.code, .int .i64 e.a, .int .i64 e.b] 93] (by decide) rfl (by decide) rfl ?_
  refine Mx.p rfl (Pu.nilCheck rfl) rfl ?_
  refine Mx.p rfl (Pu.fieldAddr (off' := voff V + (m).toNat * 8 + 7) Try.runUnderlying61 rfl Try.sizeOf3 rfl rfl rfl) rfl ?_
  refine Mx.l0 rfl (Lo.storeM 1 (j := (m).toNat) (off := 7) (vs := [.int .i64 e.tick]) (e := [.int .i64 (({ { x with state := 4 } with code := e.code }).s), .int .i64 (({ { x with state := 4 } with code := e.code }).id), .int .i64 (({ { x with state := 4 } with code := e.code }).state), .int .i64 (({ { x with state := 4 } with code := e.code }).level), .int .i64 (({ { x with state := 4 } with code := e.code }).code), .int .i64 (({ { x with state := 4 } with code := e.code }).came), .int .i64 (({ { x with state := 4 } with code := e.code }).began), .int .i64 (({ { x with state := 4 } with code := e.code }).ended)]) ({ { { x with state := 4 } with code := e.code } with ended := e.tick }) rfl rfl rfl rfl (by omega) hs3 rfl (by exact Try.sizeOf3) rfl rfl rfl rfl rfl) ?_
  rintro _ _ rfl
  have hs4 : (((out.set (m).toNat ({ x with state := 4 })).set (m).toNat ({ { x with state := 4 } with code := e.code })).set (m).toNat ({ { { x with state := 4 } with code := e.code } with ended := e.tick }))[(m).toNat]? = some ({ { { x with state := 4 } with code := e.code } with ended := e.tick }) := List.getElem?_set_self (List.getElem?_eq_some_iff.1 hs3).1
  refine MxK.all [0] [var g1 [.int .i64 e.kind, .int .i64 e.tick, .int .i64 e.s, .int .i64 e.id, .int .i64 e.code, .int .i64 e.a, .int .i64 e.b] 93] (by decide) rfl (by kernel_rfl) ?_
  refine Mx.nil ?_
  exact J.done (Fin.ret (rs := []) rfl [] trivial [1] (by decide) [row V 61 8 ((((out.set (m).toNat ({ x with state := 4 })).set (m).toNat ({ { x with state := 4 } with code := e.code })).set (m).toNat ({ { { x with state := 4 } with code := e.code } with ended := e.tick })).map Ft.cells)] rfl ⟨rfl, congrArg (fun (o : List Ft) => ([row V 61 8 (o.map Ft.cells)] : List Sp)) (by simp [Ld.does])⟩)

set_option maxRecDepth 100000 in
theorem ld_may7 (x : Ft) (e : Ev) : Tri Try.prog 96 #[.agg #[.int .i64 x.s, .int .i64 x.id, .int .i64 x.state, .int .i64 x.level, .int .i64 x.code, .int .i64 x.came, .int .i64 x.began, .int .i64 x.ended], .agg #[.int .i64 e.kind, .int .i64 e.tick, .int .i64 e.s, .int .i64 e.id, .int .i64 e.code, .int .i64 e.a, .int .i64 e.b]] [] [] (fun v L' => v = .bool (Ld.may 12 x e) ∧ L' = []) := by
  refine Tri.enter (args := [.agg #[.int .i64 x.s, .int .i64 x.id, .int .i64 x.state, .int .i64 x.level, .int .i64 x.code, .int .i64 x.came, .int .i64 x.began, .int .i64 x.ended], .agg #[.int .i64 e.kind, .int .i64 e.tick, .int .i64 e.s, .int .i64 e.id, .int .i64 e.code, .int .i64 e.a, .int .i64 e.b]]) (body := _) 7 Try.func96 rfl Try.ntmps96 rfl ?_
  intro w0
  refine J.seq ?_
  refine J.region ?_
  refine O.l (Lo.box [.int .i64 x.s, .int .i64 x.id, .int .i64 x.state, .int .i64 x.level, .int .i64 x.code, .int .i64 x.came, .int .i64 x.began, .int .i64 x.ended] rfl rfl) rfl ?_
  rintro _ _ ⟨g1, rfl, rfl⟩
  refine O.l (Lo.box [.int .i64 e.kind, .int .i64 e.tick, .int .i64 e.s, .int .i64 e.id, .int .i64 e.code, .int .i64 e.a, .int .i64 e.b] rfl rfl) rfl ?_
  rintro _ _ ⟨g2, rfl, rfl⟩
  refine O.p (Pu.assign rfl) rfl ?_
  refine O.nil ?_
  refine J.seq ?_
  refine J.region ?_
  refine O.q (Qt.ld rfl (Cel.var 1 rfl) (o := 0) (off := 0) rfl (Cut.agg [.int .i64 x.s, .int .i64 x.id, .int .i64 x.state, .int .i64 x.level, .int .i64 x.code, .int .i64 x.came, .int .i64 x.began, .int .i64 x.ended] Try.isAgg61 Try.sizeOf61 rfl rfl)) rfl ?_
  refine O.l (Lo.call [.agg #[.int .i64 x.s, .int .i64 x.id, .int .i64 x.state, .int .i64 x.level, .int .i64 x.code, .int .i64 x.came, .int .i64 x.began, .int .i64 x.ended]] (by exact Try.call97) rfl (ld_there x) [] [0, 1] (by decide) rfl _ rfl RoOk.nil) rfl ?_
  rintro _ _ ⟨_, ⟨rfl, rfl⟩, rfl⟩
  refine O.p (Pu.assign rfl) rfl ?_
  refine O.nil ?_
  exact J.ret (Fin.ret (rs := [.tmp 4]) rfl [_] ⟨rfl, trivial⟩ [] (by decide) [] rfl ⟨by simp [vOf, Ld.may, *], rfl⟩)

set_option maxRecDepth 100000 in
theorem ld_does8 (m : Int) (x : Ft) (e : Ev) (V : Value) (out : List Ft) (hx : out[(m).toNat]? = some x) : Tri Try.prog 98 #[.pointer (some ⟨(vblk V), voff V + (m).toNat * 8, none⟩), .agg #[.int .i64 e.kind, .int .i64 e.tick, .int .i64 e.s, .int .i64 e.id, .int .i64 e.code, .int .i64 e.a, .int .i64 e.b]] [] [row V 61 8 (out.map Ft.cells)] (fun v L' => v = .tuple #[] ∧ L' = [row V 61 8 ((out.set (m).toNat (Ld.does 12 x e)).map Ft.cells)]) := by
  refine Tri.enter (args := [.pointer (some ⟨(vblk V), voff V + (m).toNat * 8, none⟩), .agg #[.int .i64 e.kind, .int .i64 e.tick, .int .i64 e.s, .int .i64 e.id, .int .i64 e.code, .int .i64 e.a, .int .i64 e.b]]) (body := _) 12 Try.func98 rfl Try.ntmps98 rfl ?_
  intro w0
  refine J.seq ?_
  refine J.region ?_
  refine O.l (Lo.box [.int .i64 e.kind, .int .i64 e.tick, .int .i64 e.s, .int .i64 e.id, .int .i64 e.code, .int .i64 e.a, .int .i64 e.b] rfl rfl) rfl ?_
  rintro _ _ ⟨g1, rfl, rfl⟩
  refine O.nil ?_
  refine J.drawMix [(0, false), (1, false), (2, false), (3, false), (4, false), (5, false), (6, true), (7, false), (8, false), (9, true)] [0] [var g1 [.int .i64 e.kind, .int .i64 e.tick, .int .i64 e.s, .int .i64 e.id, .int .i64 e.code, .int .i64 e.a, .int .i64 e.b] 93] Try.mixed (by kernel_rfl) (by decide) rfl ?_
  refine Mx.p rfl (Pu.move rfl) rfl ?_
  refine Mx.p rfl (Pu.move rfl) rfl ?_
  refine Mx.p rfl (Pu.fieldAddr (off' := 1) Try.runUnderlying93 rfl Try.sizeOf3 rfl rfl rfl) rfl ?_
  refine Mx.q rfl (Qt.ld rfl (Cel.var 0 rfl) (o := 0) (off := 1) rfl (Cut.one Try.isAgg3 rfl)) rfl ?_
  refine Mx.p rfl (Pu.nilCheck rfl) rfl ?_
  refine Mx.p rfl (Pu.fieldAddr (off' := voff V + (m).toNat * 8 + 2) Try.runUnderlying61 rfl Try.sizeOf3 rfl rfl rfl) rfl ?_
  refine Mx.l0 rfl (Lo.storeM 1 (j := (m).toNat) (off := 2) (vs := [.int .i64 5]) (e := [.int .i64 x.s, .int .i64 x.id, .int .i64 x.state, .int .i64 x.level, .int .i64 x.code, .int .i64 x.came, .int .i64 x.began, .int .i64 x.ended]) ({ x with state := 5 }) rfl rfl rfl rfl (by omega) hx rfl (by exact Try.sizeOf3) rfl rfl rfl rfl rfl) ?_
  rintro _ _ rfl
  have hs2 : (out.set (m).toNat ({ x with state := 5 }))[(m).toNat]? = some ({ x with state := 5 }) := List.getElem?_set_self (List.getElem?_eq_some_iff.1 hx).1
  refine MxK.go [0] [0] [var g1 [.int .i64 e.kind, .int .i64 e.tick, .int .i64 e.s, .int .i64 e.id, .int .i64 e.code, .int .i64 e.a, .int .i64 e.b] 93] (by decide) rfl (by decide) rfl ?_
  refine Mx.p rfl (Pu.nilCheck rfl) rfl ?_
  refine Mx.p rfl (Pu.fieldAddr (off' := voff V + (m).toNat * 8 + 7) Try.runUnderlying61 rfl Try.sizeOf3 rfl rfl rfl) rfl ?_
  refine Mx.l0 rfl (Lo.storeM 1 (j := (m).toNat) (off := 7) (vs := [.int .i64 e.tick]) (e := [.int .i64 (({ x with state := 5 }).s), .int .i64 (({ x with state := 5 }).id), .int .i64 (({ x with state := 5 }).state), .int .i64 (({ x with state := 5 }).level), .int .i64 (({ x with state := 5 }).code), .int .i64 (({ x with state := 5 }).came), .int .i64 (({ x with state := 5 }).began), .int .i64 (({ x with state := 5 }).ended)]) ({ { x with state := 5 } with ended := e.tick }) rfl rfl rfl rfl (by omega) hs2 rfl (by exact Try.sizeOf3) rfl rfl rfl rfl rfl) ?_
  rintro _ _ rfl
  have hs3 : ((out.set (m).toNat ({ x with state := 5 })).set (m).toNat ({ { x with state := 5 } with ended := e.tick }))[(m).toNat]? = some ({ { x with state := 5 } with ended := e.tick }) := List.getElem?_set_self (List.getElem?_eq_some_iff.1 hs2).1
  refine MxK.all [0] [var g1 [.int .i64 e.kind, .int .i64 e.tick, .int .i64 e.s, .int .i64 e.id, .int .i64 e.code, .int .i64 e.a, .int .i64 e.b] 93] (by decide) rfl (by kernel_rfl) ?_
  refine Mx.nil ?_
  exact J.done (Fin.ret (rs := []) rfl [] trivial [1] (by decide) [row V 61 8 (((out.set (m).toNat ({ x with state := 5 })).set (m).toNat ({ { x with state := 5 } with ended := e.tick })).map Ft.cells)] rfl ⟨rfl, congrArg (fun (o : List Ft) => ([row V 61 8 (o.map Ft.cells)] : List Sp)) (by simp [Ld.does])⟩)

end Go.Proofs.Ytghhjhjpccipaaa
