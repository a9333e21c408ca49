/-
  Walks, printed by a program of mine (lk.py): each function meets its contract.
-/
import Derived.KernelRfl
import Derived.Test.YtnkhmbbnabejhaaGreatDoorNumsR
import Derived.Test.YtnkhmbbnabejhaaGreatDoorReport0
import Derived.Test.YtnkhmbbnabejhaaGreatDoorLkD
namespace Go.Proofs.YtnkhmbbnabejhaaGreatDoor
open Go Go.LK
set_option linter.unusedSimpArgs false

set_option maxRecDepth 100000 in
theorem ld_open (x : Ft) : Tri Tryz.prog 83 #[.agg #[.int .i64 x.s, .int .i64 x.id, .int .i64 x.state, .int .i64 x.level, .int .i64 x.code, .int .i64 x.came, .int .i64 x.began, .int .i64 x.ended]] [] [] (fun v L' => v = .bool (Ld.isOpen x) ∧ L' = []) := by
 refine Tri.enter (args := [.agg #[.int .i64 x.s, .int .i64 x.id, .int .i64 x.state, .int .i64 x.level, .int .i64 x.code, .int .i64 x.came, .int .i64 x.began, .int .i64 x.ended]]) (body := _) 11 Tryz.func83 rfl Tryz.ntmps83 rfl ?_
 intro w0
 refine J.seq ?_
 refine J.region ?_
 refine O.l (Lo.box [.int .i64 x.s, .int .i64 x.id, .int .i64 x.state, .int .i64 x.level, .int .i64 x.code, .int .i64 x.came, .int .i64 x.began, .int .i64 x.ended] rfl rfl) rfl ?_
 rintro _ _ ⟨g1, rfl, rfl⟩
 refine O.p (Pu.assign rfl) rfl ?_
 refine O.nil ?_
 refine J.seq ?_
 refine J.region ?_
 refine O.p (Pu.fieldAddr (off' := 2) Tryz.runUnderlying111 rfl Tryz.sizeOf3 rfl rfl rfl) rfl ?_
 refine O.q (Qt.ld rfl (Cel.var 0 rfl) (o := 0) (off := 2) rfl (Cut.one Tryz.isAgg3 rfl)) rfl ?_
 refine O.p (Pu.geq rfl rfl) rfl ?_
 refine O.p (Pu.move rfl) rfl ?_
 refine by_bool (decide (1 ≤ x.state)) (fun h2 => ?_) (fun h2 => ?_)
 ·
  have p3 := of_decide_eq_true h2
  refine O.gq (t := 6) rfl rfl h2 rfl (Pu.qt (Pu.fieldAddr (off' := 2) Tryz.runUnderlying111 rfl Tryz.sizeOf3 rfl rfl rfl)) rfl ?_
  refine O.gq (t := 6) rfl rfl h2 rfl (Qt.ld rfl (Cel.var 0 rfl) (o := 0) (off := 2) rfl (Cut.one Tryz.isAgg3 rfl)) rfl ?_
  refine O.gq (t := 6) rfl rfl h2 rfl (Pu.qt (Pu.leq rfl rfl)) rfl ?_
  refine O.p (Pu.pickT rfl h2 rfl) rfl ?_
  refine O.p (Pu.assign rfl) rfl ?_
  refine O.nil ?_
  exact J.ret (Fin.ret (rs := [.tmp 2]) rfl [_] ⟨rfl, trivial⟩ [] (by decide) [] rfl ⟨by simp [vOf, Ld.isOpen, *], rfl⟩)
 ·
  have p4 := of_decide_eq_false h2
  refine O.gskip (t := 6) rfl rfl (no_bool (by rw [h2]; decide)) rfl rfl ?_
  refine O.gskip (t := 6) rfl rfl (no_bool (by rw [h2]; decide)) rfl rfl ?_
  refine O.gskip (t := 6) rfl rfl (no_bool (by rw [h2]; decide)) rfl rfl ?_
  refine O.p (Pu.pickF rfl h2 rfl) rfl ?_
  refine O.p (Pu.assign rfl) rfl ?_
  refine O.nil ?_
  exact J.ret (Fin.ret (rs := [.tmp 2]) rfl [_] ⟨rfl, trivial⟩ [] (by decide) [] rfl ⟨by simp [vOf, Ld.isOpen, *], rfl⟩)

set_option maxRecDepth 100000 in
theorem ld_there (x : Ft) : Tri Tryz.prog 86 #[.agg #[.int .i64 x.s, .int .i64 x.id, .int .i64 x.state, .int .i64 x.level, .int .i64 x.code, .int .i64 x.came, .int .i64 x.began, .int .i64 x.ended]] [] [] (fun v L' => v = .bool (Ld.there x) ∧ L' = []) := by
 refine Tri.enter (args := [.agg #[.int .i64 x.s, .int .i64 x.id, .int .i64 x.state, .int .i64 x.level, .int .i64 x.code, .int .i64 x.came, .int .i64 x.began, .int .i64 x.ended]]) (body := _) 11 Tryz.func86 rfl Tryz.ntmps86 rfl ?_
 intro w0
 refine J.seq ?_
 refine J.region ?_
 refine O.l (Lo.box [.int .i64 x.s, .int .i64 x.id, .int .i64 x.state, .int .i64 x.level, .int .i64 x.code, .int .i64 x.came, .int .i64 x.began, .int .i64 x.ended] rfl rfl) rfl ?_
 rintro _ _ ⟨g1, rfl, rfl⟩
 refine O.p (Pu.assign rfl) rfl ?_
 refine O.nil ?_
 refine J.seq ?_
 refine J.region ?_
 refine O.p (Pu.fieldAddr (off' := 2) Tryz.runUnderlying111 rfl Tryz.sizeOf3 rfl rfl rfl) rfl ?_
 refine O.q (Qt.ld rfl (Cel.var 0 rfl) (o := 0) (off := 2) rfl (Cut.one Tryz.isAgg3 rfl)) rfl ?_
 refine O.p (Pu.eql rfl rfl) rfl ?_
 refine O.p (Pu.move rfl) rfl ?_
 refine by_bool (decide (x.state = 2)) (fun h2 => ?_) (fun h2 => ?_)
 ·
  have p3 := of_decide_eq_true h2
  refine O.gskip (t := 6) rfl rfl (no_bool (by rw [h2]; decide)) rfl rfl ?_
  refine O.gskip (t := 6) rfl rfl (no_bool (by rw [h2]; decide)) rfl rfl ?_
  refine O.gskip (t := 6) rfl rfl (no_bool (by rw [h2]; decide)) rfl rfl ?_
  refine O.p (Pu.pickT rfl h2 rfl) rfl ?_
  refine O.p (Pu.assign rfl) rfl ?_
  refine O.nil ?_
  exact J.ret (Fin.ret (rs := [.tmp 2]) rfl [_] ⟨rfl, trivial⟩ [] (by decide) [] rfl ⟨by simp [vOf, Ld.there, *], rfl⟩)
 ·
  have p4 := of_decide_eq_false h2
  refine O.gq (t := 6) rfl rfl h2 rfl (Pu.qt (Pu.fieldAddr (off' := 2) Tryz.runUnderlying111 rfl Tryz.sizeOf3 rfl rfl rfl)) rfl ?_
  refine O.gq (t := 6) rfl rfl h2 rfl (Qt.ld rfl (Cel.var 0 rfl) (o := 0) (off := 2) rfl (Cut.one Tryz.isAgg3 rfl)) rfl ?_
  refine O.gq (t := 6) rfl rfl h2 rfl (Pu.qt (Pu.eql rfl rfl)) rfl ?_
  refine O.p (Pu.pickF rfl h2 rfl) rfl ?_
  refine O.p (Pu.assign rfl) rfl ?_
  refine O.nil ?_
  exact J.ret (Fin.ret (rs := [.tmp 2]) rfl [_] ⟨rfl, trivial⟩ [] (by decide) [] rfl ⟨by simp [vOf, Ld.there, *], rfl⟩)

set_option maxRecDepth 100000 in
theorem ld_may1 (x : Ft) (e : Ev) : Tri Tryz.prog 78 #[.agg #[.int .i64 x.s, .int .i64 x.id, .int .i64 x.state, .int .i64 x.level, .int .i64 x.code, .int .i64 x.came, .int .i64 x.began, .int .i64 x.ended], .agg #[.int .i64 e.kind, .int .i64 e.tick, .int .i64 e.s, .int .i64 e.id, .int .i64 e.code, .int .i64 e.a, .int .i64 e.b]] [] [] (fun v L' => v = .bool (Ld.may 5 x e) ∧ L' = []) := by
 refine Tri.enter (args := [.agg #[.int .i64 x.s, .int .i64 x.id, .int .i64 x.state, .int .i64 x.level, .int .i64 x.code, .int .i64 x.came, .int .i64 x.began, .int .i64 x.ended], .agg #[.int .i64 e.kind, .int .i64 e.tick, .int .i64 e.s, .int .i64 e.id, .int .i64 e.code, .int .i64 e.a, .int .i64 e.b]]) (body := _) 8 Tryz.func78 rfl Tryz.ntmps78 rfl ?_
 intro w0
 refine J.seq ?_
 refine J.region ?_
 refine O.l (Lo.box [.int .i64 x.s, .int .i64 x.id, .int .i64 x.state, .int .i64 x.level, .int .i64 x.code, .int .i64 x.came, .int .i64 x.began, .int .i64 x.ended] rfl rfl) rfl ?_
 rintro _ _ ⟨g1, rfl, rfl⟩
 refine O.l (Lo.box [.int .i64 e.kind, .int .i64 e.tick, .int .i64 e.s, .int .i64 e.id, .int .i64 e.code, .int .i64 e.a, .int .i64 e.b] rfl rfl) rfl ?_
 rintro _ _ ⟨g2, rfl, rfl⟩
 refine O.p (Pu.assign rfl) rfl ?_
 refine O.nil ?_
 refine J.seq ?_
 refine J.region ?_
 refine O.p (Pu.fieldAddr (off' := 2) Tryz.runUnderlying111 rfl Tryz.sizeOf3 rfl rfl rfl) rfl ?_
 refine O.q (Qt.ld rfl (Cel.var 1 rfl) (o := 0) (off := 2) rfl (Cut.one Tryz.isAgg3 rfl)) rfl ?_
 refine O.p (Pu.eql rfl rfl) rfl ?_
 refine O.p (Pu.assign rfl) rfl ?_
 refine O.nil ?_
 exact J.ret (Fin.ret (rs := [.tmp 4]) rfl [_] ⟨rfl, trivial⟩ [] (by decide) [] rfl ⟨by simp [vOf, Ld.may, *], rfl⟩)

set_option maxRecDepth 100000 in
theorem ld_does2 (m : Int) (x : Ft) (e : Ev) (V : Value) (out : List Ft) (hx : out[(m).toNat]? = some x) : Tri Tryz.prog 79 #[.pointer (some ⟨(vblk V), voff V + (m).toNat * 8, none⟩), .agg #[.int .i64 e.kind, .int .i64 e.tick, .int .i64 e.s, .int .i64 e.id, .int .i64 e.code, .int .i64 e.a, .int .i64 e.b]] [] [row V 111 8 (out.map Ft.cells)] (fun v L' => v = .tuple #[] ∧ L' = [row V 111 8 ((out.set (m).toNat (Ld.does 5 x e)).map Ft.cells)]) := by
 refine Tri.enter (args := [.pointer (some ⟨(vblk V), voff V + (m).toNat * 8, none⟩), .agg #[.int .i64 e.kind, .int .i64 e.tick, .int .i64 e.s, .int .i64 e.id, .int .i64 e.code, .int .i64 e.a, .int .i64 e.b]]) (body := _) 4 Tryz.func79 rfl Tryz.ntmps79 rfl ?_
 intro w0
 refine J.region ?_
 refine O.l (Lo.box [.int .i64 e.kind, .int .i64 e.tick, .int .i64 e.s, .int .i64 e.id, .int .i64 e.code, .int .i64 e.a, .int .i64 e.b] rfl rfl) rfl ?_
 rintro _ _ ⟨g1, rfl, rfl⟩
 refine O.nil ?_
 exact J.done (Fin.ret (rs := []) rfl [] trivial [1] (by decide) [row V 111 8 (out.map Ft.cells)] rfl ⟨rfl, congrArg (fun (o : List Ft) => ([row V 111 8 (o.map Ft.cells)] : List Sp)) (by simp [Ld.does, List.set_getElem_self, Ld.set_same hx])⟩)

set_option maxRecDepth 100000 in
theorem ld_may3 (x : Ft) (e : Ev) : Tri Tryz.prog 80 #[.agg #[.int .i64 x.s, .int .i64 x.id, .int .i64 x.state, .int .i64 x.level, .int .i64 x.code, .int .i64 x.came, .int .i64 x.began, .int .i64 x.ended], .agg #[.int .i64 e.kind, .int .i64 e.tick, .int .i64 e.s, .int .i64 e.id, .int .i64 e.code, .int .i64 e.a, .int .i64 e.b]] [] [] (fun v L' => v = .bool (Ld.may 3 x e) ∧ L' = []) := by
 refine Tri.enter (args := [.agg #[.int .i64 x.s, .int .i64 x.id, .int .i64 x.state, .int .i64 x.level, .int .i64 x.code, .int .i64 x.came, .int .i64 x.began, .int .i64 x.ended], .agg #[.int .i64 e.kind, .int .i64 e.tick, .int .i64 e.s, .int .i64 e.id, .int .i64 e.code, .int .i64 e.a, .int .i64 e.b]]) (body := _) 8 Tryz.func80 rfl Tryz.ntmps80 rfl ?_
 intro w0
 refine J.seq ?_
 refine J.region ?_
 refine O.l (Lo.box [.int .i64 x.s, .int .i64 x.id, .int .i64 x.state, .int .i64 x.level, .int .i64 x.code, .int .i64 x.came, .int .i64 x.began, .int .i64 x.ended] rfl rfl) rfl ?_
 rintro _ _ ⟨g1, rfl, rfl⟩
 refine O.l (Lo.box [.int .i64 e.kind, .int .i64 e.tick, .int .i64 e.s, .int .i64 e.id, .int .i64 e.code, .int .i64 e.a, .int .i64 e.b] rfl rfl) rfl ?_
 rintro _ _ ⟨g2, rfl, rfl⟩
 refine O.p (Pu.assign rfl) rfl ?_
 refine O.nil ?_
 refine J.seq ?_
 refine J.region ?_
 refine O.p (Pu.fieldAddr (off' := 2) Tryz.runUnderlying111 rfl Tryz.sizeOf3 rfl rfl rfl) rfl ?_
 refine O.q (Qt.ld rfl (Cel.var 1 rfl) (o := 0) (off := 2) rfl (Cut.one Tryz.isAgg3 rfl)) rfl ?_
 refine O.p (Pu.eql rfl rfl) rfl ?_
 refine O.p (Pu.assign rfl) rfl ?_
 refine O.nil ?_
 exact J.ret (Fin.ret (rs := [.tmp 4]) rfl [_] ⟨rfl, trivial⟩ [] (by decide) [] rfl ⟨by simp [vOf, Ld.may, *], rfl⟩)

set_option maxRecDepth 100000 in
theorem ld_does4 (m : Int) (x : Ft) (e : Ev) (V : Value) (out : List Ft) (hx : out[(m).toNat]? = some x) : Tri Tryz.prog 81 #[.pointer (some ⟨(vblk V), voff V + (m).toNat * 8, none⟩), .agg #[.int .i64 e.kind, .int .i64 e.tick, .int .i64 e.s, .int .i64 e.id, .int .i64 e.code, .int .i64 e.a, .int .i64 e.b]] [] [row V 111 8 (out.map Ft.cells)] (fun v L' => v = .tuple #[] ∧ L' = [row V 111 8 ((out.set (m).toNat (Ld.does 3 x e)).map Ft.cells)]) := by
 refine Tri.enter (args := [.pointer (some ⟨(vblk V), voff V + (m).toNat * 8, none⟩), .agg #[.int .i64 e.kind, .int .i64 e.tick, .int .i64 e.s, .int .i64 e.id, .int .i64 e.code, .int .i64 e.a, .int .i64 e.b]]) (body := _) 12 Tryz.func81 rfl Tryz.ntmps81 rfl ?_
 intro w0
 refine J.seq ?_
 refine J.region ?_
 refine O.l (Lo.box [.int .i64 e.kind, .int .i64 e.tick, .int .i64 e.s, .int .i64 e.id, .int .i64 e.code, .int .i64 e.a, .int .i64 e.b] rfl rfl) rfl ?_
 rintro _ _ ⟨g1, rfl, rfl⟩
 refine O.nil ?_
 refine J.drawMix [(0, false), (1, false), (2, false), (3, false), (4, false), (5, false), (6, true), (7, false), (8, false), (9, true)] [0] [var g1 [.int .i64 e.kind, .int .i64 e.tick, .int .i64 e.s, .int .i64 e.id, .int .i64 e.code, .int .i64 e.a, .int .i64 e.b] 47] Tryz.mixed (by kernel_rfl) (by decide) rfl ?_
 refine Mx.p rfl (Pu.move rfl) rfl ?_
 refine Mx.p rfl (Pu.move rfl) rfl ?_
 refine Mx.p rfl (Pu.fieldAddr (off' := 1) Tryz.runUnderlying47 rfl Tryz.sizeOf3 rfl rfl rfl) rfl ?_
 refine Mx.q rfl (Qt.ld rfl (Cel.var 0 rfl) (o := 0) (off := 1) rfl (Cut.one Tryz.isAgg3 rfl)) rfl ?_
 refine Mx.p rfl (Pu.nilCheck rfl) rfl ?_
 refine Mx.p rfl (Pu.fieldAddr (off' := voff V + (m).toNat * 8 + 2) Tryz.runUnderlying111 rfl Tryz.sizeOf3 rfl rfl rfl) rfl ?_
 refine Mx.l0 rfl (Lo.storeM 1 (j := (m).toNat) (off := 2) (vs := [.int .i64 3]) (e := [.int .i64 x.s, .int .i64 x.id, .int .i64 x.state, .int .i64 x.level, .int .i64 x.code, .int .i64 x.came, .int .i64 x.began, .int .i64 x.ended]) ({ x with state := 3 }) rfl rfl rfl rfl (by omega) hx rfl (by exact Tryz.sizeOf3) rfl rfl rfl rfl rfl) ?_
 rintro _ _ rfl
 have hs2 : (out.set (m).toNat ({ x with state := 3 }))[(m).toNat]? = some ({ x with state := 3 }) := List.getElem?_set_self (List.getElem?_eq_some_iff.1 hx).1
 refine MxK.go [0] [0] [var g1 [.int .i64 e.kind, .int .i64 e.tick, .int .i64 e.s, .int .i64 e.id, .int .i64 e.code, .int .i64 e.a, .int .i64 e.b] 47] (by decide) rfl (by decide) rfl ?_
 refine Mx.p rfl (Pu.nilCheck rfl) rfl ?_
 refine Mx.p rfl (Pu.fieldAddr (off' := voff V + (m).toNat * 8 + 6) Tryz.runUnderlying111 rfl Tryz.sizeOf3 rfl rfl rfl) rfl ?_
 refine Mx.l0 rfl (Lo.storeM 1 (j := (m).toNat) (off := 6) (vs := [.int .i64 e.tick]) (e := [.int .i64 (({ x with state := 3 }).s), .int .i64 (({ x with state := 3 }).id), .int .i64 (({ x with state := 3 }).state), .int .i64 (({ x with state := 3 }).level), .int .i64 (({ x with state := 3 }).code), .int .i64 (({ x with state := 3 }).came), .int .i64 (({ x with state := 3 }).began), .int .i64 (({ x with state := 3 }).ended)]) ({ { x with state := 3 } with began := e.tick }) rfl rfl rfl rfl (by omega) hs2 rfl (by exact Tryz.sizeOf3) rfl rfl rfl rfl rfl) ?_
 rintro _ _ rfl
 have hs3 : ((out.set (m).toNat ({ x with state := 3 })).set (m).toNat ({ { x with state := 3 } with began := e.tick }))[(m).toNat]? = some ({ { x with state := 3 } with began := e.tick }) := List.getElem?_set_self (List.getElem?_eq_some_iff.1 hs2).1
 refine MxK.all [0] [var g1 [.int .i64 e.kind, .int .i64 e.tick, .int .i64 e.s, .int .i64 e.id, .int .i64 e.code, .int .i64 e.a, .int .i64 e.b] 47] (by decide) rfl (by kernel_rfl) ?_
 refine Mx.nil ?_
 exact J.done (Fin.ret (rs := []) rfl [] trivial [1] (by decide) [row V 111 8 (((out.set (m).toNat ({ x with state := 3 })).set (m).toNat ({ { x with state := 3 } with began := e.tick })).map Ft.cells)] rfl ⟨rfl, congrArg (fun (o : List Ft) => ([row V 111 8 (o.map Ft.cells)] : List Sp)) (by simp [Ld.does])⟩)

set_option maxRecDepth 100000 in
theorem ld_may5 (x : Ft) (e : Ev) : Tri Tryz.prog 82 #[.agg #[.int .i64 x.s, .int .i64 x.id, .int .i64 x.state, .int .i64 x.level, .int .i64 x.code, .int .i64 x.came, .int .i64 x.began, .int .i64 x.ended], .agg #[.int .i64 e.kind, .int .i64 e.tick, .int .i64 e.s, .int .i64 e.id, .int .i64 e.code, .int .i64 e.a, .int .i64 e.b]] [] [] (fun v L' => v = .bool (Ld.may 4 x e) ∧ L' = []) := by
 refine Tri.enter (args := [.agg #[.int .i64 x.s, .int .i64 x.id, .int .i64 x.state, .int .i64 x.level, .int .i64 x.code, .int .i64 x.came, .int .i64 x.began, .int .i64 x.ended], .agg #[.int .i64 e.kind, .int .i64 e.tick, .int .i64 e.s, .int .i64 e.id, .int .i64 e.code, .int .i64 e.a, .int .i64 e.b]]) (body := _) 19 Tryz.func82 rfl Tryz.ntmps82 rfl ?_
 intro w0
 refine J.seq ?_
 refine J.region ?_
 refine O.l (Lo.box [.int .i64 x.s, .int .i64 x.id, .int .i64 x.state, .int .i64 x.level, .int .i64 x.code, .int .i64 x.came, .int .i64 x.began, .int .i64 x.ended] rfl rfl) rfl ?_
 rintro _ _ ⟨g1, rfl, rfl⟩
 refine O.l (Lo.box [.int .i64 e.kind, .int .i64 e.tick, .int .i64 e.s, .int .i64 e.id, .int .i64 e.code, .int .i64 e.a, .int .i64 e.b] rfl rfl) rfl ?_
 rintro _ _ ⟨g2, rfl, rfl⟩
 refine O.p (Pu.assign rfl) rfl ?_
 refine O.nil ?_
 refine J.seq ?_
 refine J.region ?_
 refine O.q (Qt.ld rfl (Cel.var 1 rfl) (o := 0) (off := 0) rfl (Cut.agg [.int .i64 x.s, .int .i64 x.id, .int .i64 x.state, .int .i64 x.level, .int .i64 x.code, .int .i64 x.came, .int .i64 x.began, .int .i64 x.ended] Tryz.isAgg111 Tryz.sizeOf111 rfl rfl)) rfl ?_
 refine O.l (Lo.call [.agg #[.int .i64 x.s, .int .i64 x.id, .int .i64 x.state, .int .i64 x.level, .int .i64 x.code, .int .i64 x.came, .int .i64 x.began, .int .i64 x.ended]] (by exact Tryz.call83) rfl (ld_open x) [] [0, 1] (by decide) rfl [var g2 [.int .i64 e.kind, .int .i64 e.tick, .int .i64 e.s, .int .i64 e.id, .int .i64 e.code, .int .i64 e.a, .int .i64 e.b] 47, var g1 [.int .i64 x.s, .int .i64 x.id, .int .i64 x.state, .int .i64 x.level, .int .i64 x.code, .int .i64 x.came, .int .i64 x.began, .int .i64 x.ended] 111] rfl RoOk.nil) rfl ?_
 rintro _ _ ⟨_, ⟨rfl, rfl⟩, rfl⟩
 refine O.p (Pu.move rfl) rfl ?_
 refine by_bool (Ld.isOpen x) (fun h4 => ?_) (fun h4 => ?_)
 ·
  refine O.gq (t := 7) rfl rfl h4 rfl (Pu.qt (Pu.fieldAddr (off' := 2) Tryz.runUnderlying111 rfl Tryz.sizeOf3 rfl rfl rfl)) rfl ?_
  refine O.gq (t := 7) rfl rfl h4 rfl (Qt.ld rfl (Cel.var 1 rfl) (o := 0) (off := 2) rfl (Cut.one Tryz.isAgg3 rfl)) rfl ?_
  refine O.gq (t := 7) rfl rfl h4 rfl (Pu.qt (Pu.neq rfl rfl)) rfl ?_
  refine O.gq (t := 7) rfl rfl h4 rfl (Pu.qt (Pu.move rfl)) rfl ?_
  refine by_bool (decide (x.state ≠ 1)) (fun h5 => ?_) (fun h5 => ?_)
  ·
   have p6 := of_decide_eq_true h5
   refine O.gskip (t := 11) rfl rfl (no_bool (by rw [h5]; decide)) rfl rfl ?_
   refine O.gskip (t := 11) rfl rfl (no_bool (by rw [h5]; decide)) rfl rfl ?_
   refine O.gskip (t := 11) rfl rfl (no_bool (by rw [h5]; decide)) rfl rfl ?_
   refine O.gskip (t := 11) rfl rfl (no_bool (by rw [h5]; decide)) rfl rfl ?_
   refine O.gskip (t := 11) rfl rfl (no_bool (by rw [h5]; decide)) rfl rfl ?_
   refine O.gq (t := 7) rfl rfl h4 rfl (Pu.qt (Pu.pickT rfl h5 rfl)) rfl ?_
   refine O.p (Pu.pickT rfl h4 rfl) rfl ?_
   refine O.p (Pu.assign rfl) rfl ?_
   refine O.nil ?_
   exact J.ret (Fin.ret (rs := [.tmp 4]) rfl [_] ⟨rfl, trivial⟩ [] (by decide) [] rfl ⟨by simp [vOf, Ld.may, *], rfl⟩)
  ·
   have p7 := of_decide_eq_false h5
   refine O.gq (t := 11) rfl rfl h5 rfl (Pu.qt (Pu.fieldAddr (off' := 4) Tryz.runUnderlying111 rfl Tryz.sizeOf3 rfl rfl rfl)) rfl ?_
   refine O.gq (t := 11) rfl rfl h5 rfl (Qt.ld rfl (Cel.var 1 rfl) (o := 0) (off := 4) rfl (Cut.one Tryz.isAgg3 rfl)) rfl ?_
   refine O.gq (t := 11) rfl rfl h5 rfl (Pu.qt (Pu.fieldAddr (off' := 4) Tryz.runUnderlying47 rfl Tryz.sizeOf3 rfl rfl rfl)) rfl ?_
   refine O.gq (t := 11) rfl rfl h5 rfl (Qt.ld rfl (Cel.var 0 rfl) (o := 0) (off := 4) rfl (Cut.one Tryz.isAgg3 rfl)) rfl ?_
   refine O.gq (t := 11) rfl rfl h5 rfl (Pu.qt (Pu.eql rfl rfl)) rfl ?_
   refine O.gq (t := 7) rfl rfl h4 rfl (Pu.qt (Pu.pickF rfl h5 rfl)) rfl ?_
   refine O.p (Pu.pickT rfl h4 rfl) rfl ?_
   refine O.p (Pu.assign rfl) rfl ?_
   refine O.nil ?_
   exact J.ret (Fin.ret (rs := [.tmp 4]) rfl [_] ⟨rfl, trivial⟩ [] (by decide) [] rfl ⟨by simp [vOf, Ld.may, *], rfl⟩)
 ·
  refine O.gskip (t := 7) rfl rfl (no_bool (by rw [h4]; decide)) rfl rfl ?_
  refine O.gskip (t := 7) rfl rfl (no_bool (by rw [h4]; decide)) rfl rfl ?_
  refine O.gskip (t := 7) rfl rfl (no_bool (by rw [h4]; decide)) rfl rfl ?_
  refine O.gskip (t := 7) rfl rfl (no_bool (by rw [h4]; decide)) rfl rfl ?_
  refine O.gskip (t := 11) rfl rfl (no_undef _) rfl rfl ?_
  refine O.gskip (t := 11) rfl rfl (no_undef _) rfl rfl ?_
  refine O.gskip (t := 11) rfl rfl (no_undef _) rfl rfl ?_
  refine O.gskip (t := 11) rfl rfl (no_undef _) rfl rfl ?_
  refine O.gskip (t := 11) rfl rfl (no_undef _) rfl rfl ?_
  refine O.gskip (t := 7) rfl rfl (no_bool (by rw [h4]; decide)) rfl rfl ?_
  refine O.p (Pu.pickF rfl h4 rfl) rfl ?_
  refine O.p (Pu.assign rfl) rfl ?_
  refine O.nil ?_
  exact J.ret (Fin.ret (rs := [.tmp 4]) rfl [_] ⟨rfl, trivial⟩ [] (by decide) [] rfl ⟨by simp [vOf, Ld.may, *], rfl⟩)

set_option maxRecDepth 100000 in
theorem ld_does6 (m : Int) (x : Ft) (e : Ev) (V : Value) (out : List Ft) (hx : out[(m).toNat]? = some x) : Tri Tryz.prog 84 #[.pointer (some ⟨(vblk V), voff V + (m).toNat * 8, none⟩), .agg #[.int .i64 e.kind, .int .i64 e.tick, .int .i64 e.s, .int .i64 e.id, .int .i64 e.code, .int .i64 e.a, .int .i64 e.b]] [] [row V 111 8 (out.map Ft.cells)] (fun v L' => v = .tuple #[] ∧ L' = [row V 111 8 ((out.set (m).toNat (Ld.does 4 x e)).map Ft.cells)]) := by
 refine Tri.enter (args := [.pointer (some ⟨(vblk V), voff V + (m).toNat * 8, none⟩), .agg #[.int .i64 e.kind, .int .i64 e.tick, .int .i64 e.s, .int .i64 e.id, .int .i64 e.code, .int .i64 e.a, .int .i64 e.b]]) (body := _) 17 Tryz.func84 rfl Tryz.ntmps84 rfl ?_
 intro w0
 refine J.seq ?_
 refine J.region ?_
 refine O.l (Lo.box [.int .i64 e.kind, .int .i64 e.tick, .int .i64 e.s, .int .i64 e.id, .int .i64 e.code, .int .i64 e.a, .int .i64 e.b] rfl rfl) rfl ?_
 rintro _ _ ⟨g1, rfl, rfl⟩
 refine O.nil ?_
 refine J.drawMix [(0, false), (1, false), (2, false), (3, false), (4, false), (5, false), (6, false), (7, false), (8, false), (9, true), (10, false), (11, false), (12, true), (13, false), (14, false), (15, true)] [0] [var g1 [.int .i64 e.kind, .int .i64 e.tick, .int .i64 e.s, .int .i64 e.id, .int .i64 e.code, .int .i64 e.a, .int .i64 e.b] 47] Tryz.mixed (by kernel_rfl) (by decide) rfl ?_
 refine Mx.p rfl (Pu.move rfl) rfl ?_
 refine Mx.p rfl (Pu.move rfl) rfl ?_
 refine Mx.p rfl (Pu.move rfl) rfl ?_
 refine Mx.p rfl (Pu.fieldAddr (off' := 4) Tryz.runUnderlying47 rfl Tryz.sizeOf3 rfl rfl rfl) rfl ?_
 refine Mx.q rfl (Qt.ld rfl (Cel.var 0 rfl) (o := 0) (off := 4) rfl (Cut.one Tryz.isAgg3 rfl)) rfl ?_
 refine Mx.p rfl (Pu.fieldAddr (off' := 1) Tryz.runUnderlying47 rfl Tryz.sizeOf3 rfl rfl rfl) rfl ?_
 refine Mx.q rfl (Qt.ld rfl (Cel.var 0 rfl) (o := 0) (off := 1) rfl (Cut.one Tryz.isAgg3 rfl)) rfl ?_
 refine Mx.p rfl (Pu.nilCheck rfl) rfl ?_
 refine Mx.p rfl (Pu.fieldAddr (off' := voff V + (m).toNat * 8 + 2) Tryz.runUnderlying111 rfl Tryz.sizeOf3 rfl rfl rfl) rfl ?_
 refine Mx.l0 rfl (Lo.storeM 1 (j := (m).toNat) (off := 2) (vs := [.int .i64 4]) (e := [.int .i64 x.s, .int .i64 x.id, .int .i64 x.state, .int .i64 x.level, .int .i64 x.code, .int .i64 x.came, .int .i64 x.began, .int .i64 x.ended]) ({ x with state := 4 }) rfl rfl rfl rfl (by omega) hx rfl (by exact Tryz.sizeOf3) rfl rfl rfl rfl rfl) ?_
 rintro _ _ rfl
 have hs2 : (out.set (m).toNat ({ x with state := 4 }))[(m).toNat]? = some ({ x with state := 4 }) := List.getElem?_set_self (List.getElem?_eq_some_iff.1 hx).1
 refine MxK.go [0] [0] [var g1 [.int .i64 e.kind, .int .i64 e.tick, .int .i64 e.s, .int .i64 e.id, .int .i64 e.code, .int .i64 e.a, .int .i64 e.b] 47] (by decide) rfl (by decide) rfl ?_
 refine Mx.p rfl (Pu.nilCheck rfl) rfl ?_
 refine Mx.p rfl (Pu.fieldAddr (off' := voff V + (m).toNat * 8 + 4) Tryz.runUnderlying111 rfl Tryz.sizeOf3 rfl rfl rfl) rfl ?_
 refine Mx.l0 rfl (Lo.storeM 1 (j := (m).toNat) (off := 4) (vs := [.int .i64 e.code]) (e := [.int .i64 (({ x with state := 4 }).s), .int .i64 (({ x with state := 4 }).id), .int .i64 (({ x with state := 4 }).state), .int .i64 (({ x with state := 4 }).level), .int .i64 (({ x with state := 4 }).code), .int .i64 (({ x with state := 4 }).came), .int .i64 (({ x with state := 4 }).began), .int .i64 (({ x with state := 4 }).ended)]) ({ { x with state := 4 } with code := e.code }) rfl rfl rfl rfl (by omega) hs2 rfl (by exact Tryz.sizeOf3) rfl rfl rfl rfl rfl) ?_
 rintro _ _ rfl
 have hs3 : ((out.set (m).toNat ({ x with state := 4 })).set (m).toNat ({ { x with state := 4 } with code := e.code }))[(m).toNat]? = some ({ { x with state := 4 } with code := e.code }) := List.getElem?_set_self (List.getElem?_eq_some_iff.1 hs2).1
 refine MxK.go [0] [0] [var g1 [.int .i64 e.kind, .int .i64 e.tick, .int .i64 e.s, .int .i64 e.id, .int .i64 e.code, .int .i64 e.a, .int .i64 e.b] 47] (by decide) rfl (by decide) rfl ?_
 refine Mx.p rfl (Pu.nilCheck rfl) rfl ?_
 refine Mx.p rfl (Pu.fieldAddr (off' := voff V + (m).toNat * 8 + 7) Tryz.runUnderlying111 rfl Tryz.sizeOf3 rfl rfl rfl) rfl ?_
 refine Mx.l0 rfl (Lo.storeM 1 (j := (m).toNat) (off := 7) (vs := [.int .i64 e.tick]) (e := [.int .i64 (({ { x with state := 4 } with code := e.code }).s), .int .i64 (({ { x with state := 4 } with code := e.code }).id), .int .i64 (({ { x with state := 4 } with code := e.code }).state), .int .i64 (({ { x with state := 4 } with code := e.code }).level), .int .i64 (({ { x with state := 4 } with code := e.code }).code), .int .i64 (({ { x with state := 4 } with code := e.code }).came), .int .i64 (({ { x with state := 4 } with code := e.code }).began), .int .i64 (({ { x with state := 4 } with code := e.code }).ended)]) ({ { { x with state := 4 } with code := e.code } with ended := e.tick }) rfl rfl rfl rfl (by omega) hs3 rfl (by exact Tryz.sizeOf3) rfl rfl rfl rfl rfl) ?_
 rintro _ _ rfl
 have hs4 : (((out.set (m).toNat ({ x with state := 4 })).set (m).toNat ({ { x with state := 4 } with code := e.code })).set (m).toNat ({ { { x with state := 4 } with code := e.code } with ended := e.tick }))[(m).toNat]? = some ({ { { x with state := 4 } with code := e.code } with ended := e.tick }) := List.getElem?_set_self (List.getElem?_eq_some_iff.1 hs3).1
 refine MxK.all [0] [var g1 [.int .i64 e.kind, .int .i64 e.tick, .int .i64 e.s, .int .i64 e.id, .int .i64 e.code, .int .i64 e.a, .int .i64 e.b] 47] (by decide) rfl (by kernel_rfl) ?_
 refine Mx.nil ?_
 exact J.done (Fin.ret (rs := []) rfl [] trivial [1] (by decide) [row V 111 8 ((((out.set (m).toNat ({ x with state := 4 })).set (m).toNat ({ { x with state := 4 } with code := e.code })).set (m).toNat ({ { { x with state := 4 } with code := e.code } with ended := e.tick })).map Ft.cells)] rfl ⟨rfl, congrArg (fun (o : List Ft) => ([row V 111 8 (o.map Ft.cells)] : List Sp)) (by simp [Ld.does])⟩)

set_option maxRecDepth 100000 in
theorem ld_may7 (x : Ft) (e : Ev) : Tri Tryz.prog 85 #[.agg #[.int .i64 x.s, .int .i64 x.id, .int .i64 x.state, .int .i64 x.level, .int .i64 x.code, .int .i64 x.came, .int .i64 x.began, .int .i64 x.ended], .agg #[.int .i64 e.kind, .int .i64 e.tick, .int .i64 e.s, .int .i64 e.id, .int .i64 e.code, .int .i64 e.a, .int .i64 e.b]] [] [] (fun v L' => v = .bool (Ld.may 12 x e) ∧ L' = []) := by
 refine Tri.enter (args := [.agg #[.int .i64 x.s, .int .i64 x.id, .int .i64 x.state, .int .i64 x.level, .int .i64 x.code, .int .i64 x.came, .int .i64 x.began, .int .i64 x.ended], .agg #[.int .i64 e.kind, .int .i64 e.tick, .int .i64 e.s, .int .i64 e.id, .int .i64 e.code, .int .i64 e.a, .int .i64 e.b]]) (body := _) 7 Tryz.func85 rfl Tryz.ntmps85 rfl ?_
 intro w0
 refine J.seq ?_
 refine J.region ?_
 refine O.l (Lo.box [.int .i64 x.s, .int .i64 x.id, .int .i64 x.state, .int .i64 x.level, .int .i64 x.code, .int .i64 x.came, .int .i64 x.began, .int .i64 x.ended] rfl rfl) rfl ?_
 rintro _ _ ⟨g1, rfl, rfl⟩
 refine O.l (Lo.box [.int .i64 e.kind, .int .i64 e.tick, .int .i64 e.s, .int .i64 e.id, .int .i64 e.code, .int .i64 e.a, .int .i64 e.b] rfl rfl) rfl ?_
 rintro _ _ ⟨g2, rfl, rfl⟩
 refine O.p (Pu.assign rfl) rfl ?_
 refine O.nil ?_
 refine J.seq ?_
 refine J.region ?_
 refine O.q (Qt.ld rfl (Cel.var 1 rfl) (o := 0) (off := 0) rfl (Cut.agg [.int .i64 x.s, .int .i64 x.id, .int .i64 x.state, .int .i64 x.level, .int .i64 x.code, .int .i64 x.came, .int .i64 x.began, .int .i64 x.ended] Tryz.isAgg111 Tryz.sizeOf111 rfl rfl)) rfl ?_
 refine O.l (Lo.call [.agg #[.int .i64 x.s, .int .i64 x.id, .int .i64 x.state, .int .i64 x.level, .int .i64 x.code, .int .i64 x.came, .int .i64 x.began, .int .i64 x.ended]] (by exact Tryz.call86) rfl (ld_there x) [] [0, 1] (by decide) rfl [var g2 [.int .i64 e.kind, .int .i64 e.tick, .int .i64 e.s, .int .i64 e.id, .int .i64 e.code, .int .i64 e.a, .int .i64 e.b] 47, var g1 [.int .i64 x.s, .int .i64 x.id, .int .i64 x.state, .int .i64 x.level, .int .i64 x.code, .int .i64 x.came, .int .i64 x.began, .int .i64 x.ended] 111] rfl RoOk.nil) rfl ?_
 rintro _ _ ⟨_, ⟨rfl, rfl⟩, rfl⟩
 refine O.p (Pu.assign rfl) rfl ?_
 refine O.nil ?_
 exact J.ret (Fin.ret (rs := [.tmp 4]) rfl [_] ⟨rfl, trivial⟩ [] (by decide) [] rfl ⟨by simp [vOf, Ld.may, *], rfl⟩)

set_option maxRecDepth 100000 in
theorem ld_does8 (m : Int) (x : Ft) (e : Ev) (V : Value) (out : List Ft) (hx : out[(m).toNat]? = some x) : Tri Tryz.prog 87 #[.pointer (some ⟨(vblk V), voff V + (m).toNat * 8, none⟩), .agg #[.int .i64 e.kind, .int .i64 e.tick, .int .i64 e.s, .int .i64 e.id, .int .i64 e.code, .int .i64 e.a, .int .i64 e.b]] [] [row V 111 8 (out.map Ft.cells)] (fun v L' => v = .tuple #[] ∧ L' = [row V 111 8 ((out.set (m).toNat (Ld.does 12 x e)).map Ft.cells)]) := by
 refine Tri.enter (args := [.pointer (some ⟨(vblk V), voff V + (m).toNat * 8, none⟩), .agg #[.int .i64 e.kind, .int .i64 e.tick, .int .i64 e.s, .int .i64 e.id, .int .i64 e.code, .int .i64 e.a, .int .i64 e.b]]) (body := _) 12 Tryz.func87 rfl Tryz.ntmps87 rfl ?_
 intro w0
 refine J.seq ?_
 refine J.region ?_
 refine O.l (Lo.box [.int .i64 e.kind, .int .i64 e.tick, .int .i64 e.s, .int .i64 e.id, .int .i64 e.code, .int .i64 e.a, .int .i64 e.b] rfl rfl) rfl ?_
 rintro _ _ ⟨g1, rfl, rfl⟩
 refine O.nil ?_
 refine J.drawMix [(0, false), (1, false), (2, false), (3, false), (4, false), (5, false), (6, true), (7, false), (8, false), (9, true)] [0] [var g1 [.int .i64 e.kind, .int .i64 e.tick, .int .i64 e.s, .int .i64 e.id, .int .i64 e.code, .int .i64 e.a, .int .i64 e.b] 47] Tryz.mixed (by kernel_rfl) (by decide) rfl ?_
 refine Mx.p rfl (Pu.move rfl) rfl ?_
 refine Mx.p rfl (Pu.move rfl) rfl ?_
 refine Mx.p rfl (Pu.fieldAddr (off' := 1) Tryz.runUnderlying47 rfl Tryz.sizeOf3 rfl rfl rfl) rfl ?_
 refine Mx.q rfl (Qt.ld rfl (Cel.var 0 rfl) (o := 0) (off := 1) rfl (Cut.one Tryz.isAgg3 rfl)) rfl ?_
 refine Mx.p rfl (Pu.nilCheck rfl) rfl ?_
 refine Mx.p rfl (Pu.fieldAddr (off' := voff V + (m).toNat * 8 + 2) Tryz.runUnderlying111 rfl Tryz.sizeOf3 rfl rfl rfl) rfl ?_
 refine Mx.l0 rfl (Lo.storeM 1 (j := (m).toNat) (off := 2) (vs := [.int .i64 5]) (e := [.int .i64 x.s, .int .i64 x.id, .int .i64 x.state, .int .i64 x.level, .int .i64 x.code, .int .i64 x.came, .int .i64 x.began, .int .i64 x.ended]) ({ x with state := 5 }) rfl rfl rfl rfl (by omega) hx rfl (by exact Tryz.sizeOf3) rfl rfl rfl rfl rfl) ?_
 rintro _ _ rfl
 have hs2 : (out.set (m).toNat ({ x with state := 5 }))[(m).toNat]? = some ({ x with state := 5 }) := List.getElem?_set_self (List.getElem?_eq_some_iff.1 hx).1
 refine MxK.go [0] [0] [var g1 [.int .i64 e.kind, .int .i64 e.tick, .int .i64 e.s, .int .i64 e.id, .int .i64 e.code, .int .i64 e.a, .int .i64 e.b] 47] (by decide) rfl (by decide) rfl ?_
 refine Mx.p rfl (Pu.nilCheck rfl) rfl ?_
 refine Mx.p rfl (Pu.fieldAddr (off' := voff V + (m).toNat * 8 + 7) Tryz.runUnderlying111 rfl Tryz.sizeOf3 rfl rfl rfl) rfl ?_
 refine Mx.l0 rfl (Lo.storeM 1 (j := (m).toNat) (off := 7) (vs := [.int .i64 e.tick]) (e := [.int .i64 (({ x with state := 5 }).s), .int .i64 (({ x with state := 5 }).id), .int .i64 (({ x with state := 5 }).state), .int .i64 (({ x with state := 5 }).level), .int .i64 (({ x with state := 5 }).code), .int .i64 (({ x with state := 5 }).came), .int .i64 (({ x with state := 5 }).began), .int .i64 (({ x with state := 5 }).ended)]) ({ { x with state := 5 } with ended := e.tick }) rfl rfl rfl rfl (by omega) hs2 rfl (by exact Tryz.sizeOf3) rfl rfl rfl rfl rfl) ?_
 rintro _ _ rfl
 have hs3 : ((out.set (m).toNat ({ x with state := 5 })).set (m).toNat ({ { x with state := 5 } with ended := e.tick }))[(m).toNat]? = some ({ { x with state := 5 } with ended := e.tick }) := List.getElem?_set_self (List.getElem?_eq_some_iff.1 hs2).1
 refine MxK.all [0] [var g1 [.int .i64 e.kind, .int .i64 e.tick, .int .i64 e.s, .int .i64 e.id, .int .i64 e.code, .int .i64 e.a, .int .i64 e.b] 47] (by decide) rfl (by kernel_rfl) ?_
 refine Mx.nil ?_
 exact J.done (Fin.ret (rs := []) rfl [] trivial [1] (by decide) [row V 111 8 (((out.set (m).toNat ({ x with state := 5 })).set (m).toNat ({ { x with state := 5 } with ended := e.tick })).map Ft.cells)] rfl ⟨rfl, congrArg (fun (o : List Ft) => ([row V 111 8 (o.map Ft.cells)] : List Sp)) (by simp [Ld.does])⟩)

def ruleM : List (List Int × Value) := [([3], .agg #[.func (.func 80) #[] #[], .func (.func 81) #[] #[]]), ([4], .agg #[.func (.func 82) #[] #[], .func (.func 84) #[] #[]]), ([12], .agg #[.func (.func 85) #[] #[], .func (.func 87) #[] #[]]), ([5], .agg #[.func (.func 78) #[] #[], .func (.func 79) #[] #[]]), ([6], .agg #[.func (.func 78) #[] #[], .func (.func 79) #[] #[]])]

set_option maxRecDepth 100000 in
theorem ld_rules  : Tri Tryz.prog 62 #[] [] [] (fun v L' => ∃ b, v = .map (some b) ∧ L' = [mp b encI 1 ruleM]) := by
 refine Tri.enter (args := []) (body := _) 10 Tryz.func62 rfl Tryz.ntmps62 rfl ?_
 intro w0
 refine J.seq ?_
 refine J.region ?_
 refine O.p (Pu.assign rfl) rfl ?_
 refine O.nil ?_
 refine J.seq ?_
 refine J.region ?_
 refine O.p (Pu.build [(0, .func (.func 78) #[] #[]), (1, .func (.func 79) #[] #[])] [.func (.func 78) #[] #[], .func (.func 79) #[] #[]] #[(0, 1), (1, 1)] Tryz.runUnderlying125 Tryz.zeroValue125 (places125 Tryz.underlying125) rfl (by kernel_rfl)) rfl ?_
 refine O.l (Lo.alloc [Value.nilFunc, Value.nilFunc] (by exact Tryz.zeroValue125) rfl) rfl ?_
 rintro _ _ ⟨g1, rfl, rfl⟩
 refine O.l0 (Lo.store 0 (vs := [.func (.func 78) #[] #[], .func (.func 79) #[] #[]]) [.func (.func 78) #[] #[], .func (.func 79) #[] #[]] rfl rfl rfl (by exact Tryz.sizeOf125) rfl rfl rfl rfl rfl) ?_
 rintro _ _ rfl
 refine O.nil ?_
 refine J.seq ?_
 refine J.region ?_
 refine O.l (Lo.makeMap encI 1) rfl ?_
 rintro _ _ ⟨b2, rfl, rfl⟩
 refine O.p (Pu.build [(0, .func (.func 80) #[] #[]), (1, .func (.func 81) #[] #[])] [.func (.func 80) #[] #[], .func (.func 81) #[] #[]] #[(0, 1), (1, 1)] Tryz.runUnderlying125 Tryz.zeroValue125 (places125 Tryz.underlying125) rfl (by kernel_rfl)) rfl ?_
 refine O.l0 (Lo.insert 0 (key := [3]) (by exact Tryz.underlying102) (KT.int (by exact Tryz.underlying3)) rfl rfl rfl rfl rfl rfl) ?_
 rintro _ _ rfl
 refine O.p (Pu.build [(0, .func (.func 82) #[] #[]), (1, .func (.func 84) #[] #[])] [.func (.func 82) #[] #[], .func (.func 84) #[] #[]] #[(0, 1), (1, 1)] Tryz.runUnderlying125 Tryz.zeroValue125 (places125 Tryz.underlying125) rfl (by kernel_rfl)) rfl ?_
 refine O.l0 (Lo.insert 0 (key := [4]) (by exact Tryz.underlying102) (KT.int (by exact Tryz.underlying3)) rfl rfl rfl rfl rfl rfl) ?_
 rintro _ _ rfl
 refine O.p (Pu.build [(0, .func (.func 85) #[] #[]), (1, .func (.func 87) #[] #[])] [.func (.func 85) #[] #[], .func (.func 87) #[] #[]] #[(0, 1), (1, 1)] Tryz.runUnderlying125 Tryz.zeroValue125 (places125 Tryz.underlying125) rfl (by kernel_rfl)) rfl ?_
 refine O.l0 (Lo.insert 0 (key := [12]) (by exact Tryz.underlying102) (KT.int (by exact Tryz.underlying3)) rfl rfl rfl rfl rfl rfl) ?_
 rintro _ _ rfl
 refine O.q (Qt.ld rfl (Cel.var 1 rfl) (o := 0) (off := 0) rfl (Cut.agg [.func (.func 78) #[] #[], .func (.func 79) #[] #[]] Tryz.isAgg125 Tryz.sizeOf125 rfl rfl)) rfl ?_
 refine O.l0 (Lo.insert 0 (key := [5]) (by exact Tryz.underlying102) (KT.int (by exact Tryz.underlying3)) rfl rfl rfl rfl rfl rfl) ?_
 rintro _ _ rfl
 refine O.q (Qt.ld rfl (Cel.var 1 rfl) (o := 0) (off := 0) rfl (Cut.agg [.func (.func 78) #[] #[], .func (.func 79) #[] #[]] Tryz.isAgg125 Tryz.sizeOf125 rfl rfl)) rfl ?_
 refine O.l0 (Lo.insert 0 (key := [6]) (by exact Tryz.underlying102) (KT.int (by exact Tryz.underlying3)) rfl rfl rfl rfl rfl rfl) ?_
 rintro _ _ rfl
 refine O.p (Pu.move rfl) rfl ?_
 refine O.p (Pu.assign rfl) rfl ?_
 refine O.nil ?_
 exact J.ret (Fin.ret (rs := [.tmp 0]) rfl [_] ⟨rfl, trivial⟩ [0] (by decide) [mp b2 encI 1 [([3], .agg #[.func (.func 80) #[] #[], .func (.func 81) #[] #[]]), ([4], .agg #[.func (.func 82) #[] #[], .func (.func 84) #[] #[]]), ([12], .agg #[.func (.func 85) #[] #[], .func (.func 87) #[] #[]]), ([5], .agg #[.func (.func 78) #[] #[], .func (.func 79) #[] #[]]), ([6], .agg #[.func (.func 78) #[] #[], .func (.func 79) #[] #[]])]] rfl ⟨b2, rfl, rfl⟩)

set_option maxRecDepth 100000 in
theorem ld_came (gb b1 b2 : Nat) (V : Value) (out : List Ft) (pm : List (List Int × Int)) (e : Ev) (hfit : Ld.Fits pm out) (hlen : out.length ≤ 100000) : Tri Tryz.prog 88 #[.pointer (some ⟨gb, 0, none⟩), .agg #[.int .i64 e.kind, .int .i64 e.tick, .int .i64 e.s, .int .i64 e.id, .int .i64 e.code, .int .i64 e.a, .int .i64 e.b]] [] [var gb [V, .map (some b1), .map (some b2)] 105, row V 111 8 (out.map Ft.cells), mp b1 encR 2 (pm.map fun p => (p.1, Value.int .i64 p.2))] (fun v L' => ∃ V' pm' out', v = .bool (Ld.cameF out e).isSome ∧ out' = (Ld.cameF out e).getD out ∧ Ld.Fits pm' out' ∧ L' = [var gb [V', .map (some b1), .map (some b2)] 105, row V' 111 8 (out'.map Ft.cells), mp b1 encR 2 (pm'.map fun p => (p.1, Value.int .i64 p.2))]) := by
 refine Tri.enter (args := [.pointer (some ⟨gb, 0, none⟩), .agg #[.int .i64 e.kind, .int .i64 e.tick, .int .i64 e.s, .int .i64 e.id, .int .i64 e.code, .int .i64 e.a, .int .i64 e.b]]) (body := _) 69 Tryz.func88 rfl Tryz.ntmps88 rfl ?_
 intro w0
 refine J.seq ?_
 refine J.region ?_
 refine O.l (Lo.box [.int .i64 e.kind, .int .i64 e.tick, .int .i64 e.s, .int .i64 e.id, .int .i64 e.code, .int .i64 e.a, .int .i64 e.b] rfl rfl) rfl ?_
 rintro _ _ ⟨g1, rfl, rfl⟩
 refine O.p (Pu.assign rfl) rfl ?_
 refine O.nil ?_
 refine J.seq ?_
 refine J.region ?_
 refine O.p (Pu.fieldAddr (off' := 2) Tryz.runUnderlying47 rfl Tryz.sizeOf3 rfl rfl rfl) rfl ?_
 refine O.q (Qt.ld rfl (Cel.var 0 rfl) (o := 0) (off := 2) rfl (Cut.one Tryz.isAgg3 rfl)) rfl ?_
 refine O.p (Pu.fieldAddr (off' := 3) Tryz.runUnderlying47 rfl Tryz.sizeOf3 rfl rfl rfl) rfl ?_
 refine O.q (Qt.ld rfl (Cel.var 0 rfl) (o := 0) (off := 3) rfl (Cut.one Tryz.isAgg3 rfl)) rfl ?_
 refine O.p (Pu.build [(0, .int .i64 e.s), (1, .int .i64 e.id)] [.int .i64 e.s, .int .i64 e.id] #[(0, 1), (1, 1)] Tryz.runUnderlying130 Tryz.zeroValue130 (places130 Tryz.underlying130) rfl (by kernel_rfl)) rfl ?_
 refine O.l (Lo.alloc [.int .i64 0, .int .i64 0] (by exact Tryz.zeroValue130) rfl) rfl ?_
 rintro _ _ ⟨g2, rfl, rfl⟩
 refine O.l0 (Lo.store 0 (vs := [.int .i64 e.s, .int .i64 e.id]) [.int .i64 e.s, .int .i64 e.id] rfl rfl rfl (by exact Tryz.sizeOf130) rfl rfl rfl rfl rfl) ?_
 rintro _ _ rfl
 refine O.nil ?_
 refine J.seq ?_
 refine J.seq ?_
 refine J.drawStill Tryz.mixed (by kernel_rfl) ?_
 refine S.p (Pu.move rfl) rfl ?_
 refine S.p (Pu.nilCheck rfl) rfl ?_
 refine S.p (Pu.fieldAddr (off' := 1) Tryz.runUnderlying105 rfl Tryz.sizeOf101 rfl rfl rfl) rfl ?_
 refine S.q (Qt.ld rfl (Cel.var 2 rfl) (o := 0) (off := 1) rfl (Cut.one Tryz.isAgg101 rfl)) rfl ?_
 refine S.q (Qt.ld rfl (Cel.var 0 rfl) (o := 0) (off := 0) rfl (Cut.agg [.int .i64 e.s, .int .i64 e.id] Tryz.isAgg130 Tryz.sizeOf130 rfl rfl)) rfl ?_
 refine S.q (Qt.lookI 4 (key := [e.s, e.id]) Tryz.underlying101 (KT.str Tryz.underlying130 Tryz.stoodInHeld130 (fint130 Tryz.underlying130)) Tryz.zeroValue3 rfl rfl rfl rfl rfl) rfl ?_
 refine S.p (Pu.move rfl) rfl ?_
 refine S.p (Pu.extract rfl rfl) rfl ?_
 refine S.p (Pu.extract rfl rfl) rfl ?_
 refine S.p (Pu.assign rfl) rfl ?_
 refine S.p (Pu.assign rfl) rfl ?_
 refine S.endJ ?_
 refine J.seq ?_
 refine J.region ?_
 refine O.p (Pu.move rfl) rfl ?_
 refine O.p (Pu.move rfl) rfl ?_
 refine by_bool ((getM pm [e.s, e.id]).isSome) (fun h3 => ?_) (fun h3 => ?_)
 ·
  refine O.gq (t := 24) rfl rfl h3 rfl (Pu.qt (Pu.move rfl)) rfl ?_
  refine O.gq (t := 24) rfl rfl h3 rfl (Pu.qt (Pu.nilCheck rfl)) rfl ?_
  refine O.gq (t := 24) rfl rfl h3 rfl (Pu.qt (Pu.fieldAddr (off' := 0) Tryz.runUnderlying105 rfl Tryz.sizeOf66 rfl rfl rfl)) rfl ?_
  refine O.gq (t := 24) rfl rfl h3 rfl (Qt.ld rfl (Cel.var 2 rfl) (o := 0) (off := 0) rfl (Cut.one Tryz.isAgg66 rfl)) rfl ?_
  refine O.gq (t := 24) rfl rfl h3 rfl (Pu.qt (Pu.move rfl)) rfl ?_
  obtain ⟨e4, he4⟩ : ∃ x_, out[((getM pm [e.s, e.id]).getD 0).toNat]? = some x_ := ⟨_, List.getElem?_eq_getElem (by first | omega | exact (Ld.fits_at hfit ‹_›).1 | exact (Ld.fits_at hfit ‹_›).2.1 | exact (Ld.fits_at hfit ‹_›).2.2.1 | (simp only [List.length_append, List.length_cons, List.length_nil, List.length_set]; omega))⟩
  refine O.gq (t := 24) rfl rfl h3 rfl (Qt.idxM Tryz.runUnderlying66 Tryz.sizeOf111 rfl (Src.row 3 rfl) rfl (by first | omega | exact (Ld.fits_at hfit ‹_›).1 | exact (Ld.fits_at hfit ‹_›).2.1 | exact (Ld.fits_at hfit ‹_›).2.2.1 | (simp only [List.length_append, List.length_cons, List.length_nil, List.length_set]; omega)) (by first | omega | exact (Ld.fits_at hfit ‹_›).1 | exact (Ld.fits_at hfit ‹_›).2.1 | exact (Ld.fits_at hfit ‹_›).2.2.1 | (simp only [List.length_append, List.length_cons, List.length_nil, List.length_set]; omega))) rfl ?_
  refine O.gq (t := 24) rfl rfl h3 rfl (Qt.ld rfl (Cel.eltM (Src.row 3 rfl) he4) (o := (voff V + (((getM pm [e.s, e.id]).getD 0).toNat) * 8)) (off := 0) (by omega) (Cut.agg [.int .i64 e4.s, .int .i64 e4.id, .int .i64 e4.state, .int .i64 e4.level, .int .i64 e4.code, .int .i64 e4.came, .int .i64 e4.began, .int .i64 e4.ended] Tryz.isAgg111 Tryz.sizeOf111 rfl rfl)) rfl ?_
  refine O.gl (t := 24) rfl rfl h3 rfl (Lo.call [.agg #[.int .i64 e4.s, .int .i64 e4.id, .int .i64 e4.state, .int .i64 e4.level, .int .i64 e4.code, .int .i64 e4.came, .int .i64 e4.began, .int .i64 e4.ended]] (by exact Tryz.call83) rfl (ld_open e4) [] [0, 1, 2, 3, 4] (by decide) rfl [var g2 [.int .i64 e.s, .int .i64 e.id] 130, var g1 [.int .i64 e.kind, .int .i64 e.tick, .int .i64 e.s, .int .i64 e.id, .int .i64 e.code, .int .i64 e.a, .int .i64 e.b] 47, var gb [V, .map (some b1), .map (some b2)] 105, row V 111 8 (out.map Ft.cells), mp b1 encR 2 (pm.map fun p => (p.1, Value.int .i64 p.2))] rfl RoOk.nil) rfl ?_
  rintro _ _ ⟨_, ⟨rfl, rfl⟩, rfl⟩
  refine O.p (Pu.pickT rfl h3 rfl) rfl ?_
  refine O.nil ?_
  refine J.cond rfl (fun h6 => ?_) (fun h6 => ?_)
  ·
   refine J.seq ?_
   refine J.region ?_
   refine O.p (Pu.assign rfl) rfl ?_
   refine O.nil ?_
   exact J.ret (Fin.ret (rs := [.tmp 4]) rfl [_] ⟨rfl, trivial⟩ [2, 3, 4] (by decide) [var gb [V, .map (some b1), .map (some b2)] 105, row V 111 8 (out.map Ft.cells), mp b1 encR 2 (pm.map fun p => (p.1, Value.int .i64 p.2))] rfl ⟨V, pm, out, (by rw [Ld.cameF_open hfit ‹_› ‹_› ‹_›]; rfl), (by rw [Ld.cameF_open hfit ‹_› ‹_› ‹_›]; rfl), hfit, rfl⟩)
  ·
   refine J.skip ?_
   refine J.seq ?_
   refine J.region ?_
   refine O.p (Pu.fieldAddr (off' := 2) Tryz.runUnderlying47 rfl Tryz.sizeOf3 rfl rfl rfl) rfl ?_
   refine O.q (Qt.ld rfl (Cel.var 1 rfl) (o := 0) (off := 2) rfl (Cut.one Tryz.isAgg3 rfl)) rfl ?_
   refine O.p (Pu.fieldAddr (off' := 3) Tryz.runUnderlying47 rfl Tryz.sizeOf3 rfl rfl rfl) rfl ?_
   refine O.q (Qt.ld rfl (Cel.var 1 rfl) (o := 0) (off := 3) rfl (Cut.one Tryz.isAgg3 rfl)) rfl ?_
   refine O.p (Pu.fieldAddr (off' := 5) Tryz.runUnderlying47 rfl Tryz.sizeOf3 rfl rfl rfl) rfl ?_
   refine O.q (Qt.ld rfl (Cel.var 1 rfl) (o := 0) (off := 5) rfl (Cut.one Tryz.isAgg3 rfl)) rfl ?_
   refine O.p (Pu.fieldAddr (off' := 4) Tryz.runUnderlying47 rfl Tryz.sizeOf3 rfl rfl rfl) rfl ?_
   refine O.q (Qt.ld rfl (Cel.var 1 rfl) (o := 0) (off := 4) rfl (Cut.one Tryz.isAgg3 rfl)) rfl ?_
   refine O.p (Pu.fieldAddr (off' := 1) Tryz.runUnderlying47 rfl Tryz.sizeOf3 rfl rfl rfl) rfl ?_
   refine O.q (Qt.ld rfl (Cel.var 1 rfl) (o := 0) (off := 1) rfl (Cut.one Tryz.isAgg3 rfl)) rfl ?_
   refine O.p (Pu.build [(0, .int .i64 e.s), (1, .int .i64 e.id), (2, .int .i64 2), (3, .int .i64 e.a), (4, .int .i64 e.code), (5, .int .i64 e.tick)] [.int .i64 e.s, .int .i64 e.id, .int .i64 2, .int .i64 e.a, .int .i64 e.code, .int .i64 e.tick, .int .i64 0, .int .i64 0] #[(0, 1), (1, 1), (2, 1), (3, 1), (4, 1), (5, 1), (6, 1), (7, 1)] Tryz.runUnderlying111 Tryz.zeroValue111 (places111 Tryz.underlying111) rfl (by kernel_rfl)) rfl ?_
   refine O.l (Lo.alloc [.int .i64 0, .int .i64 0, .int .i64 0, .int .i64 0, .int .i64 0, .int .i64 0, .int .i64 0, .int .i64 0] (by exact Tryz.zeroValue111) rfl) rfl ?_
   rintro _ _ ⟨g7, rfl, rfl⟩
   refine O.l0 (Lo.store 0 (vs := [.int .i64 e.s, .int .i64 e.id, .int .i64 2, .int .i64 e.a, .int .i64 e.code, .int .i64 e.tick, .int .i64 0, .int .i64 0]) [.int .i64 e.s, .int .i64 e.id, .int .i64 2, .int .i64 e.a, .int .i64 e.code, .int .i64 e.tick, .int .i64 0, .int .i64 0] rfl rfl rfl (by exact Tryz.sizeOf111) rfl rfl rfl rfl rfl) ?_
   rintro _ _ rfl
   refine O.nil ?_
   refine J.seq ?_
   refine J.seq ?_
   refine J.region ?_
   refine O.p (Pu.fieldAddr (off' := 4) Tryz.runUnderlying47 rfl Tryz.sizeOf3 rfl rfl rfl) rfl ?_
   refine O.q (Qt.ld rfl (Cel.var 2 rfl) (o := 0) (off := 4) rfl (Cut.one Tryz.isAgg3 rfl)) rfl ?_
   refine O.p (Pu.neq rfl rfl) rfl ?_
   refine O.nil ?_
   refine J.cond rfl (fun h8 => ?_) (fun h8 => ?_)
   ·
    have p9 := of_decide_eq_true h8
    refine J.region ?_
    refine O.p (Pu.fieldAddr (off' := 2) Tryz.runUnderlying111 rfl Tryz.sizeOf3 rfl rfl rfl) rfl ?_
    refine O.l0 (Lo.store 0 (vs := [.int .i64 1]) [.int .i64 e.s, .int .i64 e.id, .int .i64 1, .int .i64 e.a, .int .i64 e.code, .int .i64 e.tick, .int .i64 0, .int .i64 0] rfl rfl rfl (by exact Tryz.sizeOf3) rfl rfl rfl rfl rfl) ?_
    rintro _ _ rfl
    refine O.nil ?_
    refine J.seq ?_
    refine J.drawTail 10 Tryz.mixed (by kernel_rfl) ?_
    refine S.p (Pu.move rfl) rfl ?_
    refine S.p (Pu.nilCheck rfl) rfl ?_
    refine S.p (Pu.fieldAddr (off' := 1) Tryz.runUnderlying105 rfl Tryz.sizeOf101 rfl rfl rfl) rfl ?_
    refine S.q (Qt.ld rfl (Cel.var 3 rfl) (o := 0) (off := 1) rfl (Cut.one Tryz.isAgg101 rfl)) rfl ?_
    refine S.q (Qt.ld rfl (Cel.var 1 rfl) (o := 0) (off := 0) rfl (Cut.agg [.int .i64 e.s, .int .i64 e.id] Tryz.isAgg130 Tryz.sizeOf130 rfl rfl)) rfl ?_
    refine S.p (Pu.move rfl) rfl ?_
    refine S.p (Pu.nilCheck rfl) rfl ?_
    refine S.p (Pu.fieldAddr (off' := 0) Tryz.runUnderlying105 rfl Tryz.sizeOf66 rfl rfl rfl) rfl ?_
    refine S.q (Qt.ld rfl (Cel.var 3 rfl) (o := 0) (off := 0) rfl (Cut.one Tryz.isAgg66 rfl)) rfl ?_
    refine S.q (Qt.lenM Tryz.runUnderlying66 rfl (Src.row 4 rfl)) rfl ?_
    refine S.endO ?_
    refine O.l0 (Lo.mapUpdI 5 (key := [e.s, e.id]) (by exact Tryz.underlying101) (KT.str (by exact Tryz.underlying130) Tryz.stoodInHeld130 (fint130 (by exact Tryz.underlying130))) rfl rfl rfl rfl rfl rfl) ?_
    rintro _ _ rfl
    refine O.nil ?_
    refine J.seq ?_
    refine J.drawMix [(0, false), (1, false), (2, false), (3, false), (4, false), (5, false), (6, true), (7, true), (8, false), (9, false), (10, true)] [0, 3] [var g7 [.int .i64 e.s, .int .i64 e.id, .int .i64 1, .int .i64 e.a, .int .i64 e.code, .int .i64 e.tick, .int .i64 0, .int .i64 0] 111, var gb [V, .map (some b1), .map (some b2)] 105] Tryz.mixed (by kernel_rfl) (by decide) rfl ?_
    refine Mx.p rfl (Pu.move rfl) rfl ?_
    refine Mx.p rfl (Pu.move rfl) rfl ?_
    refine Mx.p rfl (Pu.nilCheck rfl) rfl ?_
    refine Mx.p rfl (Pu.fieldAddr (off' := 0) Tryz.runUnderlying105 rfl Tryz.sizeOf66 rfl rfl rfl) rfl ?_
    refine Mx.q rfl (Qt.ld rfl (Cel.var 1 rfl) (o := 0) (off := 0) rfl (Cut.one Tryz.isAgg66 rfl)) rfl ?_
    refine Mx.q rfl (Qt.ld rfl (Cel.var 0 rfl) (o := 0) (off := 0) rfl (Cut.agg [.int .i64 e.s, .int .i64 e.id, .int .i64 1, .int .i64 e.a, .int .i64 e.code, .int .i64 e.tick, .int .i64 0, .int .i64 0] Tryz.isAgg111 Tryz.sizeOf111 rfl rfl)) rfl ?_
    refine Mx.l rfl (Lo.buildM (s := 8) Ft.cells [(⟨e.s, e.id, 1, e.a, e.code, e.tick, 0, 0⟩ : Ft)] [(0, .agg #[.int .i64 e.s, .int .i64 e.id, .int .i64 1, .int .i64 e.a, .int .i64 e.code, .int .i64 e.tick, .int .i64 0, .int .i64 0])] (by exact Tryz.runUnderlying66) (by exact Tryz.sizeOf111) (by exact Tryz.zeroValue111) rfl rfl rfl (by kernel_rfl) rfl rfl) rfl ?_
    rintro V10 _ rfl
    refine MxK.go [1, 4] [0, 1] [var g7 [.int .i64 e.s, .int .i64 e.id, .int .i64 1, .int .i64 e.a, .int .i64 e.code, .int .i64 e.tick, .int .i64 0, .int .i64 0] 111, var gb [V, .map (some b1), .map (some b2)] 105] (by decide) rfl (by decide) rfl ?_
    refine Mx.l rfl (Lo.appendM (s := 8) 5 (by exact Tryz.underlying66) (by exact (info111).1) (by exact (info111).2.1) (by exact (info111).2.2.1) (by exact (info111).2.2.2) rfl rfl rfl rfl rfl (Src.row 0 rfl) Ft.one (by first | omega | exact (Ld.fits_at hfit ‹_›).1 | exact (Ld.fits_at hfit ‹_›).2.1 | exact (Ld.fits_at hfit ‹_›).2.2.1 | (simp only [List.length_append, List.length_cons, List.length_nil, List.length_set]; omega)) (by first | omega | exact (Ld.fits_at hfit ‹_›).1 | exact (Ld.fits_at hfit ‹_›).2.1 | exact (Ld.fits_at hfit ‹_›).2.2.1 | (simp only [List.length_append, List.length_cons, List.length_nil, List.length_set]; omega))) rfl ?_
    rintro V11 _ rfl
    refine MxK.go [1, 4] [0, 1] [var g7 [.int .i64 e.s, .int .i64 e.id, .int .i64 1, .int .i64 e.a, .int .i64 e.code, .int .i64 e.tick, .int .i64 0, .int .i64 0] 111, var gb [V, .map (some b1), .map (some b2)] 105] (by decide) rfl (by decide) rfl ?_
    refine Mx.p rfl (Pu.nilCheck rfl) rfl ?_
    refine Mx.p rfl (Pu.fieldAddr (off' := 0) Tryz.runUnderlying105 rfl Tryz.sizeOf66 rfl rfl rfl) rfl ?_
    refine Mx.one rfl (fun _ h => by cases h <;> rfl) (Src.row 5 rfl) (fun hV12 => ?_)
    refine Mx.l0 rfl (Lo.store 4 (vs := [V11]) [V11, .map (some b1), .map (some b2)] rfl rfl rfl (by exact Tryz.sizeOf66) (one_cells hV12) rfl (one_all hV12) rfl rfl) ?_
    rintro _ _ rfl
    refine MxK.all [1, 4] [var g7 [.int .i64 e.s, .int .i64 e.id, .int .i64 1, .int .i64 e.a, .int .i64 e.code, .int .i64 e.tick, .int .i64 0, .int .i64 0] 111, var gb [V11, .map (some b1), .map (some b2)] 105] (by decide) rfl (by kernel_rfl) ?_
    refine Mx.nil ?_
    refine J.seq ?_
    refine J.region ?_
    refine O.p (Pu.assign rfl) rfl ?_
    refine O.nil ?_
    exact J.ret (Fin.ret (rs := [.tmp 4]) rfl [_] ⟨rfl, trivial⟩ [4, 5, 6] (by decide) [var gb [V11, .map (some b1), .map (some b2)] 105, row V11 111 8 ((out ++ ([(⟨e.s, e.id, 1, e.a, e.code, e.tick, 0, 0⟩ : Ft)])).map Ft.cells), mp b1 encR 2 ((setM pm [e.s, e.id] (out.length : Int)).map fun p => (p.1, Value.int .i64 p.2))] rfl ⟨V11, setM pm [e.s, e.id] (out.length : Int), out ++ ([(⟨e.s, e.id, 1, e.a, e.code, e.tick, 0, 0⟩ : Ft)]), (by rw [(show Ld.cameF out e = some (out ++ [Ld.fresh e]) from (by first | exact Ld.cameF_new hfit ‹_› | exact Ld.cameF_shut hfit ‹_› ‹_› ‹_›))]; rfl), (by rw [(show Ld.cameF out e = some (out ++ [Ld.fresh e]) from (by first | exact Ld.cameF_new hfit ‹_› | exact Ld.cameF_shut hfit ‹_› ‹_› ‹_›))]; simp [Ld.fresh, *]), Ld.fits_app' hfit rfl rfl, rfl⟩)
   ·
    have p13 := of_decide_eq_false h8
    refine J.skip ?_
    refine J.seq ?_
    refine J.drawTail 10 Tryz.mixed (by kernel_rfl) ?_
    refine S.p (Pu.move rfl) rfl ?_
    refine S.p (Pu.nilCheck rfl) rfl ?_
    refine S.p (Pu.fieldAddr (off' := 1) Tryz.runUnderlying105 rfl Tryz.sizeOf101 rfl rfl rfl) rfl ?_
    refine S.q (Qt.ld rfl (Cel.var 3 rfl) (o := 0) (off := 1) rfl (Cut.one Tryz.isAgg101 rfl)) rfl ?_
    refine S.q (Qt.ld rfl (Cel.var 1 rfl) (o := 0) (off := 0) rfl (Cut.agg [.int .i64 e.s, .int .i64 e.id] Tryz.isAgg130 Tryz.sizeOf130 rfl rfl)) rfl ?_
    refine S.p (Pu.move rfl) rfl ?_
    refine S.p (Pu.nilCheck rfl) rfl ?_
    refine S.p (Pu.fieldAddr (off' := 0) Tryz.runUnderlying105 rfl Tryz.sizeOf66 rfl rfl rfl) rfl ?_
    refine S.q (Qt.ld rfl (Cel.var 3 rfl) (o := 0) (off := 0) rfl (Cut.one Tryz.isAgg66 rfl)) rfl ?_
    refine S.q (Qt.lenM Tryz.runUnderlying66 rfl (Src.row 4 rfl)) rfl ?_
    refine S.endO ?_
    refine O.l0 (Lo.mapUpdI 5 (key := [e.s, e.id]) (by exact Tryz.underlying101) (KT.str (by exact Tryz.underlying130) Tryz.stoodInHeld130 (fint130 (by exact Tryz.underlying130))) rfl rfl rfl rfl rfl rfl) ?_
    rintro _ _ rfl
    refine O.nil ?_
    refine J.seq ?_
    refine J.drawMix [(0, false), (1, false), (2, false), (3, false), (4, false), (5, false), (6, true), (7, true), (8, false), (9, false), (10, true)] [0, 3] [var g7 [.int .i64 e.s, .int .i64 e.id, .int .i64 2, .int .i64 e.a, .int .i64 e.code, .int .i64 e.tick, .int .i64 0, .int .i64 0] 111, var gb [V, .map (some b1), .map (some b2)] 105] Tryz.mixed (by kernel_rfl) (by decide) rfl ?_
    refine Mx.p rfl (Pu.move rfl) rfl ?_
    refine Mx.p rfl (Pu.move rfl) rfl ?_
    refine Mx.p rfl (Pu.nilCheck rfl) rfl ?_
    refine Mx.p rfl (Pu.fieldAddr (off' := 0) Tryz.runUnderlying105 rfl Tryz.sizeOf66 rfl rfl rfl) rfl ?_
    refine Mx.q rfl (Qt.ld rfl (Cel.var 1 rfl) (o := 0) (off := 0) rfl (Cut.one Tryz.isAgg66 rfl)) rfl ?_
    refine Mx.q rfl (Qt.ld rfl (Cel.var 0 rfl) (o := 0) (off := 0) rfl (Cut.agg [.int .i64 e.s, .int .i64 e.id, .int .i64 2, .int .i64 e.a, .int .i64 e.code, .int .i64 e.tick, .int .i64 0, .int .i64 0] Tryz.isAgg111 Tryz.sizeOf111 rfl rfl)) rfl ?_
    refine Mx.l rfl (Lo.buildM (s := 8) Ft.cells [(⟨e.s, e.id, 2, e.a, e.code, e.tick, 0, 0⟩ : Ft)] [(0, .agg #[.int .i64 e.s, .int .i64 e.id, .int .i64 2, .int .i64 e.a, .int .i64 e.code, .int .i64 e.tick, .int .i64 0, .int .i64 0])] (by exact Tryz.runUnderlying66) (by exact Tryz.sizeOf111) (by exact Tryz.zeroValue111) rfl rfl rfl (by kernel_rfl) rfl rfl) rfl ?_
    rintro V14 _ rfl
    refine MxK.go [1, 4] [0, 1] [var g7 [.int .i64 e.s, .int .i64 e.id, .int .i64 2, .int .i64 e.a, .int .i64 e.code, .int .i64 e.tick, .int .i64 0, .int .i64 0] 111, var gb [V, .map (some b1), .map (some b2)] 105] (by decide) rfl (by decide) rfl ?_
    refine Mx.l rfl (Lo.appendM (s := 8) 5 (by exact Tryz.underlying66) (by exact (info111).1) (by exact (info111).2.1) (by exact (info111).2.2.1) (by exact (info111).2.2.2) rfl rfl rfl rfl rfl (Src.row 0 rfl) Ft.one (by first | omega | exact (Ld.fits_at hfit ‹_›).1 | exact (Ld.fits_at hfit ‹_›).2.1 | exact (Ld.fits_at hfit ‹_›).2.2.1 | (simp only [List.length_append, List.length_cons, List.length_nil, List.length_set]; omega)) (by first | omega | exact (Ld.fits_at hfit ‹_›).1 | exact (Ld.fits_at hfit ‹_›).2.1 | exact (Ld.fits_at hfit ‹_›).2.2.1 | (simp only [List.length_append, List.length_cons, List.length_nil, List.length_set]; omega))) rfl ?_
    rintro V15 _ rfl
    refine MxK.go [1, 4] [0, 1] [var g7 [.int .i64 e.s, .int .i64 e.id, .int .i64 2, .int .i64 e.a, .int .i64 e.code, .int .i64 e.tick, .int .i64 0, .int .i64 0] 111, var gb [V, .map (some b1), .map (some b2)] 105] (by decide) rfl (by decide) rfl ?_
    refine Mx.p rfl (Pu.nilCheck rfl) rfl ?_
    refine Mx.p rfl (Pu.fieldAddr (off' := 0) Tryz.runUnderlying105 rfl Tryz.sizeOf66 rfl rfl rfl) rfl ?_
    refine Mx.one rfl (fun _ h => by cases h <;> rfl) (Src.row 5 rfl) (fun hV16 => ?_)
    refine Mx.l0 rfl (Lo.store 4 (vs := [V15]) [V15, .map (some b1), .map (some b2)] rfl rfl rfl (by exact Tryz.sizeOf66) (one_cells hV16) rfl (one_all hV16) rfl rfl) ?_
    rintro _ _ rfl
    refine MxK.all [1, 4] [var g7 [.int .i64 e.s, .int .i64 e.id, .int .i64 2, .int .i64 e.a, .int .i64 e.code, .int .i64 e.tick, .int .i64 0, .int .i64 0] 111, var gb [V15, .map (some b1), .map (some b2)] 105] (by decide) rfl (by kernel_rfl) ?_
    refine Mx.nil ?_
    refine J.seq ?_
    refine J.region ?_
    refine O.p (Pu.assign rfl) rfl ?_
    refine O.nil ?_
    exact J.ret (Fin.ret (rs := [.tmp 4]) rfl [_] ⟨rfl, trivial⟩ [4, 5, 6] (by decide) [var gb [V15, .map (some b1), .map (some b2)] 105, row V15 111 8 ((out ++ ([(⟨e.s, e.id, 2, e.a, e.code, e.tick, 0, 0⟩ : Ft)])).map Ft.cells), mp b1 encR 2 ((setM pm [e.s, e.id] (out.length : Int)).map fun p => (p.1, Value.int .i64 p.2))] rfl ⟨V15, setM pm [e.s, e.id] (out.length : Int), out ++ ([(⟨e.s, e.id, 2, e.a, e.code, e.tick, 0, 0⟩ : Ft)]), (by rw [(show Ld.cameF out e = some (out ++ [Ld.fresh e]) from (by first | exact Ld.cameF_new hfit ‹_› | exact Ld.cameF_shut hfit ‹_› ‹_› ‹_›))]; rfl), (by rw [(show Ld.cameF out e = some (out ++ [Ld.fresh e]) from (by first | exact Ld.cameF_new hfit ‹_› | exact Ld.cameF_shut hfit ‹_› ‹_› ‹_›))]; simp [Ld.fresh, *]), Ld.fits_app' hfit rfl rfl, rfl⟩)
 ·
  refine O.gskip (t := 24) rfl rfl (no_bool (by rw [h3]; decide)) rfl rfl ?_
  refine O.gskip (t := 24) rfl rfl (no_bool (by rw [h3]; decide)) rfl rfl ?_
  refine O.gskip (t := 24) rfl rfl (no_bool (by rw [h3]; decide)) rfl rfl ?_
  refine O.gskip (t := 24) rfl rfl (no_bool (by rw [h3]; decide)) rfl rfl ?_
  refine O.gskip (t := 24) rfl rfl (no_bool (by rw [h3]; decide)) rfl rfl ?_
  refine O.gskip (t := 24) rfl rfl (no_bool (by rw [h3]; decide)) rfl rfl ?_
  refine O.gskip (t := 24) rfl rfl (no_bool (by rw [h3]; decide)) rfl rfl ?_
  refine O.gskip (t := 24) rfl rfl (no_bool (by rw [h3]; decide)) rfl rfl ?_
  refine O.p (Pu.pickF rfl h3 rfl) rfl ?_
  refine O.nil ?_
  refine J.condF rfl rfl ?_
  refine J.skip ?_
  refine J.seq ?_
  refine J.region ?_
  refine O.p (Pu.fieldAddr (off' := 2) Tryz.runUnderlying47 rfl Tryz.sizeOf3 rfl rfl rfl) rfl ?_
  refine O.q (Qt.ld rfl (Cel.var 1 rfl) (o := 0) (off := 2) rfl (Cut.one Tryz.isAgg3 rfl)) rfl ?_
  refine O.p (Pu.fieldAddr (off' := 3) Tryz.runUnderlying47 rfl Tryz.sizeOf3 rfl rfl rfl) rfl ?_
  refine O.q (Qt.ld rfl (Cel.var 1 rfl) (o := 0) (off := 3) rfl (Cut.one Tryz.isAgg3 rfl)) rfl ?_
  refine O.p (Pu.fieldAddr (off' := 5) Tryz.runUnderlying47 rfl Tryz.sizeOf3 rfl rfl rfl) rfl ?_
  refine O.q (Qt.ld rfl (Cel.var 1 rfl) (o := 0) (off := 5) rfl (Cut.one Tryz.isAgg3 rfl)) rfl ?_
  refine O.p (Pu.fieldAddr (off' := 4) Tryz.runUnderlying47 rfl Tryz.sizeOf3 rfl rfl rfl) rfl ?_
  refine O.q (Qt.ld rfl (Cel.var 1 rfl) (o := 0) (off := 4) rfl (Cut.one Tryz.isAgg3 rfl)) rfl ?_
  refine O.p (Pu.fieldAddr (off' := 1) Tryz.runUnderlying47 rfl Tryz.sizeOf3 rfl rfl rfl) rfl ?_
  refine O.q (Qt.ld rfl (Cel.var 1 rfl) (o := 0) (off := 1) rfl (Cut.one Tryz.isAgg3 rfl)) rfl ?_
  refine O.p (Pu.build [(0, .int .i64 e.s), (1, .int .i64 e.id), (2, .int .i64 2), (3, .int .i64 e.a), (4, .int .i64 e.code), (5, .int .i64 e.tick)] [.int .i64 e.s, .int .i64 e.id, .int .i64 2, .int .i64 e.a, .int .i64 e.code, .int .i64 e.tick, .int .i64 0, .int .i64 0] #[(0, 1), (1, 1), (2, 1), (3, 1), (4, 1), (5, 1), (6, 1), (7, 1)] Tryz.runUnderlying111 Tryz.zeroValue111 (places111 Tryz.underlying111) rfl (by kernel_rfl)) rfl ?_
  refine O.l (Lo.alloc [.int .i64 0, .int .i64 0, .int .i64 0, .int .i64 0, .int .i64 0, .int .i64 0, .int .i64 0, .int .i64 0] (by exact Tryz.zeroValue111) rfl) rfl ?_
  rintro _ _ ⟨g17, rfl, rfl⟩
  refine O.l0 (Lo.store 0 (vs := [.int .i64 e.s, .int .i64 e.id, .int .i64 2, .int .i64 e.a, .int .i64 e.code, .int .i64 e.tick, .int .i64 0, .int .i64 0]) [.int .i64 e.s, .int .i64 e.id, .int .i64 2, .int .i64 e.a, .int .i64 e.code, .int .i64 e.tick, .int .i64 0, .int .i64 0] rfl rfl rfl (by exact Tryz.sizeOf111) rfl rfl rfl rfl rfl) ?_
  rintro _ _ rfl
  refine O.nil ?_
  refine J.seq ?_
  refine J.seq ?_
  refine J.region ?_
  refine O.p (Pu.fieldAddr (off' := 4) Tryz.runUnderlying47 rfl Tryz.sizeOf3 rfl rfl rfl) rfl ?_
  refine O.q (Qt.ld rfl (Cel.var 2 rfl) (o := 0) (off := 4) rfl (Cut.one Tryz.isAgg3 rfl)) rfl ?_
  refine O.p (Pu.neq rfl rfl) rfl ?_
  refine O.nil ?_
  refine J.cond rfl (fun h18 => ?_) (fun h18 => ?_)
  ·
   have p19 := of_decide_eq_true h18
   refine J.region ?_
   refine O.p (Pu.fieldAddr (off' := 2) Tryz.runUnderlying111 rfl Tryz.sizeOf3 rfl rfl rfl) rfl ?_
   refine O.l0 (Lo.store 0 (vs := [.int .i64 1]) [.int .i64 e.s, .int .i64 e.id, .int .i64 1, .int .i64 e.a, .int .i64 e.code, .int .i64 e.tick, .int .i64 0, .int .i64 0] rfl rfl rfl (by exact Tryz.sizeOf3) rfl rfl rfl rfl rfl) ?_
   rintro _ _ rfl
   refine O.nil ?_
   refine J.seq ?_
   refine J.drawTail 10 Tryz.mixed (by kernel_rfl) ?_
   refine S.p (Pu.move rfl) rfl ?_
   refine S.p (Pu.nilCheck rfl) rfl ?_
   refine S.p (Pu.fieldAddr (off' := 1) Tryz.runUnderlying105 rfl Tryz.sizeOf101 rfl rfl rfl) rfl ?_
   refine S.q (Qt.ld rfl (Cel.var 3 rfl) (o := 0) (off := 1) rfl (Cut.one Tryz.isAgg101 rfl)) rfl ?_
   refine S.q (Qt.ld rfl (Cel.var 1 rfl) (o := 0) (off := 0) rfl (Cut.agg [.int .i64 e.s, .int .i64 e.id] Tryz.isAgg130 Tryz.sizeOf130 rfl rfl)) rfl ?_
   refine S.p (Pu.move rfl) rfl ?_
   refine S.p (Pu.nilCheck rfl) rfl ?_
   refine S.p (Pu.fieldAddr (off' := 0) Tryz.runUnderlying105 rfl Tryz.sizeOf66 rfl rfl rfl) rfl ?_
   refine S.q (Qt.ld rfl (Cel.var 3 rfl) (o := 0) (off := 0) rfl (Cut.one Tryz.isAgg66 rfl)) rfl ?_
   refine S.q (Qt.lenM Tryz.runUnderlying66 rfl (Src.row 4 rfl)) rfl ?_
   refine S.endO ?_
   refine O.l0 (Lo.mapUpdI 5 (key := [e.s, e.id]) (by exact Tryz.underlying101) (KT.str (by exact Tryz.underlying130) Tryz.stoodInHeld130 (fint130 (by exact Tryz.underlying130))) rfl rfl rfl rfl rfl rfl) ?_
   rintro _ _ rfl
   refine O.nil ?_
   refine J.seq ?_
   refine J.drawMix [(0, false), (1, false), (2, false), (3, false), (4, false), (5, false), (6, true), (7, true), (8, false), (9, false), (10, true)] [0, 3] [var g17 [.int .i64 e.s, .int .i64 e.id, .int .i64 1, .int .i64 e.a, .int .i64 e.code, .int .i64 e.tick, .int .i64 0, .int .i64 0] 111, var gb [V, .map (some b1), .map (some b2)] 105] Tryz.mixed (by kernel_rfl) (by decide) rfl ?_
   refine Mx.p rfl (Pu.move rfl) rfl ?_
   refine Mx.p rfl (Pu.move rfl) rfl ?_
   refine Mx.p rfl (Pu.nilCheck rfl) rfl ?_
   refine Mx.p rfl (Pu.fieldAddr (off' := 0) Tryz.runUnderlying105 rfl Tryz.sizeOf66 rfl rfl rfl) rfl ?_
   refine Mx.q rfl (Qt.ld rfl (Cel.var 1 rfl) (o := 0) (off := 0) rfl (Cut.one Tryz.isAgg66 rfl)) rfl ?_
   refine Mx.q rfl (Qt.ld rfl (Cel.var 0 rfl) (o := 0) (off := 0) rfl (Cut.agg [.int .i64 e.s, .int .i64 e.id, .int .i64 1, .int .i64 e.a, .int .i64 e.code, .int .i64 e.tick, .int .i64 0, .int .i64 0] Tryz.isAgg111 Tryz.sizeOf111 rfl rfl)) rfl ?_
   refine Mx.l rfl (Lo.buildM (s := 8) Ft.cells [(⟨e.s, e.id, 1, e.a, e.code, e.tick, 0, 0⟩ : Ft)] [(0, .agg #[.int .i64 e.s, .int .i64 e.id, .int .i64 1, .int .i64 e.a, .int .i64 e.code, .int .i64 e.tick, .int .i64 0, .int .i64 0])] (by exact Tryz.runUnderlying66) (by exact Tryz.sizeOf111) (by exact Tryz.zeroValue111) rfl rfl rfl (by kernel_rfl) rfl rfl) rfl ?_
   rintro V20 _ rfl
   refine MxK.go [1, 4] [0, 1] [var g17 [.int .i64 e.s, .int .i64 e.id, .int .i64 1, .int .i64 e.a, .int .i64 e.code, .int .i64 e.tick, .int .i64 0, .int .i64 0] 111, var gb [V, .map (some b1), .map (some b2)] 105] (by decide) rfl (by decide) rfl ?_
   refine Mx.l rfl (Lo.appendM (s := 8) 5 (by exact Tryz.underlying66) (by exact (info111).1) (by exact (info111).2.1) (by exact (info111).2.2.1) (by exact (info111).2.2.2) rfl rfl rfl rfl rfl (Src.row 0 rfl) Ft.one (by first | omega | exact (Ld.fits_at hfit ‹_›).1 | exact (Ld.fits_at hfit ‹_›).2.1 | exact (Ld.fits_at hfit ‹_›).2.2.1 | (simp only [List.length_append, List.length_cons, List.length_nil, List.length_set]; omega)) (by first | omega | exact (Ld.fits_at hfit ‹_›).1 | exact (Ld.fits_at hfit ‹_›).2.1 | exact (Ld.fits_at hfit ‹_›).2.2.1 | (simp only [List.length_append, List.length_cons, List.length_nil, List.length_set]; omega))) rfl ?_
   rintro V21 _ rfl
   refine MxK.go [1, 4] [0, 1] [var g17 [.int .i64 e.s, .int .i64 e.id, .int .i64 1, .int .i64 e.a, .int .i64 e.code, .int .i64 e.tick, .int .i64 0, .int .i64 0] 111, var gb [V, .map (some b1), .map (some b2)] 105] (by decide) rfl (by decide) rfl ?_
   refine Mx.p rfl (Pu.nilCheck rfl) rfl ?_
   refine Mx.p rfl (Pu.fieldAddr (off' := 0) Tryz.runUnderlying105 rfl Tryz.sizeOf66 rfl rfl rfl) rfl ?_
   refine Mx.one rfl (fun _ h => by cases h <;> rfl) (Src.row 5 rfl) (fun hV22 => ?_)
   refine Mx.l0 rfl (Lo.store 4 (vs := [V21]) [V21, .map (some b1), .map (some b2)] rfl rfl rfl (by exact Tryz.sizeOf66) (one_cells hV22) rfl (one_all hV22) rfl rfl) ?_
   rintro _ _ rfl
   refine MxK.all [1, 4] [var g17 [.int .i64 e.s, .int .i64 e.id, .int .i64 1, .int .i64 e.a, .int .i64 e.code, .int .i64 e.tick, .int .i64 0, .int .i64 0] 111, var gb [V21, .map (some b1), .map (some b2)] 105] (by decide) rfl (by kernel_rfl) ?_
   refine Mx.nil ?_
   refine J.seq ?_
   refine J.region ?_
   refine O.p (Pu.assign rfl) rfl ?_
   refine O.nil ?_
   exact J.ret (Fin.ret (rs := [.tmp 4]) rfl [_] ⟨rfl, trivial⟩ [4, 5, 6] (by decide) [var gb [V21, .map (some b1), .map (some b2)] 105, row V21 111 8 ((out ++ ([(⟨e.s, e.id, 1, e.a, e.code, e.tick, 0, 0⟩ : Ft)])).map Ft.cells), mp b1 encR 2 ((setM pm [e.s, e.id] (out.length : Int)).map fun p => (p.1, Value.int .i64 p.2))] rfl ⟨V21, setM pm [e.s, e.id] (out.length : Int), out ++ ([(⟨e.s, e.id, 1, e.a, e.code, e.tick, 0, 0⟩ : Ft)]), (by rw [(show Ld.cameF out e = some (out ++ [Ld.fresh e]) from (by first | exact Ld.cameF_new hfit ‹_› | exact Ld.cameF_shut hfit ‹_› ‹_› ‹_›))]; rfl), (by rw [(show Ld.cameF out e = some (out ++ [Ld.fresh e]) from (by first | exact Ld.cameF_new hfit ‹_› | exact Ld.cameF_shut hfit ‹_› ‹_› ‹_›))]; simp [Ld.fresh, *]), Ld.fits_app' hfit rfl rfl, rfl⟩)
  ·
   have p23 := of_decide_eq_false h18
   refine J.skip ?_
   refine J.seq ?_
   refine J.drawTail 10 Tryz.mixed (by kernel_rfl) ?_
   refine S.p (Pu.move rfl) rfl ?_
   refine S.p (Pu.nilCheck rfl) rfl ?_
   refine S.p (Pu.fieldAddr (off' := 1) Tryz.runUnderlying105 rfl Tryz.sizeOf101 rfl rfl rfl) rfl ?_
   refine S.q (Qt.ld rfl (Cel.var 3 rfl) (o := 0) (off := 1) rfl (Cut.one Tryz.isAgg101 rfl)) rfl ?_
   refine S.q (Qt.ld rfl (Cel.var 1 rfl) (o := 0) (off := 0) rfl (Cut.agg [.int .i64 e.s, .int .i64 e.id] Tryz.isAgg130 Tryz.sizeOf130 rfl rfl)) rfl ?_
   refine S.p (Pu.move rfl) rfl ?_
   refine S.p (Pu.nilCheck rfl) rfl ?_
   refine S.p (Pu.fieldAddr (off' := 0) Tryz.runUnderlying105 rfl Tryz.sizeOf66 rfl rfl rfl) rfl ?_
   refine S.q (Qt.ld rfl (Cel.var 3 rfl) (o := 0) (off := 0) rfl (Cut.one Tryz.isAgg66 rfl)) rfl ?_
   refine S.q (Qt.lenM Tryz.runUnderlying66 rfl (Src.row 4 rfl)) rfl ?_
   refine S.endO ?_
   refine O.l0 (Lo.mapUpdI 5 (key := [e.s, e.id]) (by exact Tryz.underlying101) (KT.str (by exact Tryz.underlying130) Tryz.stoodInHeld130 (fint130 (by exact Tryz.underlying130))) rfl rfl rfl rfl rfl rfl) ?_
   rintro _ _ rfl
   refine O.nil ?_
   refine J.seq ?_
   refine J.drawMix [(0, false), (1, false), (2, false), (3, false), (4, false), (5, false), (6, true), (7, true), (8, false), (9, false), (10, true)] [0, 3] [var g17 [.int .i64 e.s, .int .i64 e.id, .int .i64 2, .int .i64 e.a, .int .i64 e.code, .int .i64 e.tick, .int .i64 0, .int .i64 0] 111, var gb [V, .map (some b1), .map (some b2)] 105] Tryz.mixed (by kernel_rfl) (by decide) rfl ?_
   refine Mx.p rfl (Pu.move rfl) rfl ?_
   refine Mx.p rfl (Pu.move rfl) rfl ?_
   refine Mx.p rfl (Pu.nilCheck rfl) rfl ?_
   refine Mx.p rfl (Pu.fieldAddr (off' := 0) Tryz.runUnderlying105 rfl Tryz.sizeOf66 rfl rfl rfl) rfl ?_
   refine Mx.q rfl (Qt.ld rfl (Cel.var 1 rfl) (o := 0) (off := 0) rfl (Cut.one Tryz.isAgg66 rfl)) rfl ?_
   refine Mx.q rfl (Qt.ld rfl (Cel.var 0 rfl) (o := 0) (off := 0) rfl (Cut.agg [.int .i64 e.s, .int .i64 e.id, .int .i64 2, .int .i64 e.a, .int .i64 e.code, .int .i64 e.tick, .int .i64 0, .int .i64 0] Tryz.isAgg111 Tryz.sizeOf111 rfl rfl)) rfl ?_
   refine Mx.l rfl (Lo.buildM (s := 8) Ft.cells [(⟨e.s, e.id, 2, e.a, e.code, e.tick, 0, 0⟩ : Ft)] [(0, .agg #[.int .i64 e.s, .int .i64 e.id, .int .i64 2, .int .i64 e.a, .int .i64 e.code, .int .i64 e.tick, .int .i64 0, .int .i64 0])] (by exact Tryz.runUnderlying66) (by exact Tryz.sizeOf111) (by exact Tryz.zeroValue111) rfl rfl rfl (by kernel_rfl) rfl rfl) rfl ?_
   rintro V24 _ rfl
   refine MxK.go [1, 4] [0, 1] [var g17 [.int .i64 e.s, .int .i64 e.id, .int .i64 2, .int .i64 e.a, .int .i64 e.code, .int .i64 e.tick, .int .i64 0, .int .i64 0] 111, var gb [V, .map (some b1), .map (some b2)] 105] (by decide) rfl (by decide) rfl ?_
   refine Mx.l rfl (Lo.appendM (s := 8) 5 (by exact Tryz.underlying66) (by exact (info111).1) (by exact (info111).2.1) (by exact (info111).2.2.1) (by exact (info111).2.2.2) rfl rfl rfl rfl rfl (Src.row 0 rfl) Ft.one (by first | omega | exact (Ld.fits_at hfit ‹_›).1 | exact (Ld.fits_at hfit ‹_›).2.1 | exact (Ld.fits_at hfit ‹_›).2.2.1 | (simp only [List.length_append, List.length_cons, List.length_nil, List.length_set]; omega)) (by first | omega | exact (Ld.fits_at hfit ‹_›).1 | exact (Ld.fits_at hfit ‹_›).2.1 | exact (Ld.fits_at hfit ‹_›).2.2.1 | (simp only [List.length_append, List.length_cons, List.length_nil, List.length_set]; omega))) rfl ?_
   rintro V25 _ rfl
   refine MxK.go [1, 4] [0, 1] [var g17 [.int .i64 e.s, .int .i64 e.id, .int .i64 2, .int .i64 e.a, .int .i64 e.code, .int .i64 e.tick, .int .i64 0, .int .i64 0] 111, var gb [V, .map (some b1), .map (some b2)] 105] (by decide) rfl (by decide) rfl ?_
   refine Mx.p rfl (Pu.nilCheck rfl) rfl ?_
   refine Mx.p rfl (Pu.fieldAddr (off' := 0) Tryz.runUnderlying105 rfl Tryz.sizeOf66 rfl rfl rfl) rfl ?_
   refine Mx.one rfl (fun _ h => by cases h <;> rfl) (Src.row 5 rfl) (fun hV26 => ?_)
   refine Mx.l0 rfl (Lo.store 4 (vs := [V25]) [V25, .map (some b1), .map (some b2)] rfl rfl rfl (by exact Tryz.sizeOf66) (one_cells hV26) rfl (one_all hV26) rfl rfl) ?_
   rintro _ _ rfl
   refine MxK.all [1, 4] [var g17 [.int .i64 e.s, .int .i64 e.id, .int .i64 2, .int .i64 e.a, .int .i64 e.code, .int .i64 e.tick, .int .i64 0, .int .i64 0] 111, var gb [V25, .map (some b1), .map (some b2)] 105] (by decide) rfl (by kernel_rfl) ?_
   refine Mx.nil ?_
   refine J.seq ?_
   refine J.region ?_
   refine O.p (Pu.assign rfl) rfl ?_
   refine O.nil ?_
   exact J.ret (Fin.ret (rs := [.tmp 4]) rfl [_] ⟨rfl, trivial⟩ [4, 5, 6] (by decide) [var gb [V25, .map (some b1), .map (some b2)] 105, row V25 111 8 ((out ++ ([(⟨e.s, e.id, 2, e.a, e.code, e.tick, 0, 0⟩ : Ft)])).map Ft.cells), mp b1 encR 2 ((setM pm [e.s, e.id] (out.length : Int)).map fun p => (p.1, Value.int .i64 p.2))] rfl ⟨V25, setM pm [e.s, e.id] (out.length : Int), out ++ ([(⟨e.s, e.id, 2, e.a, e.code, e.tick, 0, 0⟩ : Ft)]), (by rw [(show Ld.cameF out e = some (out ++ [Ld.fresh e]) from (by first | exact Ld.cameF_new hfit ‹_› | exact Ld.cameF_shut hfit ‹_› ‹_› ‹_›))]; rfl), (by rw [(show Ld.cameF out e = some (out ++ [Ld.fresh e]) from (by first | exact Ld.cameF_new hfit ‹_› | exact Ld.cameF_shut hfit ‹_› ‹_› ‹_›))]; simp [Ld.fresh, *]), Ld.fits_app' hfit rfl rfl, rfl⟩)

end Go.Proofs.YtnkhmbbnabejhaaGreatDoor
