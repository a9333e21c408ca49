/-
  Walks, printed by a program of mine (lk.py): each function meets its contract.
-/
import Derived.KernelRfl
import Derived.Test.YtnkhmbbnabejhaaGreatDoorRX2
namespace Go.Proofs.YtnkhmbbnabejhaaGreatDoor
open Go Go.LK
set_option linter.unusedSimpArgs false

set_option maxRecDepth 100000 in
theorem ld_note (gb b1 b2 : Nat) (V : Value) (out : List Ft) (pm : List (List Int × Int)) (e : Ev) (hfit : Ld.Fits pm out) (hlen : out.length ≤ 99999) : Tri Tryz.prog 63 #[.pointer (some ⟨gb, 0, none⟩), .agg #[.int .i64 e.kind, .int .i64 e.tick, .int .i64 e.s, .int .i64 e.id, .int .i64 e.code, .int .i64 e.a, .int .i64 e.b]] [] [var gb [V, .map (some b1), .map (some b2)] 105, row V 111 8 (out.map Ft.cells), mp b1 encR 2 (pm.map fun p => (p.1, Value.int .i64 p.2)), mp b2 encI 1 ruleM] (fun v L' => ∃ V' pm' out', v = .bool (Ld.step out e).isSome ∧ out' = (Ld.step out e).getD out ∧ Ld.Fits pm' out' ∧ L' = [var gb [V', .map (some b1), .map (some b2)] 105, row V' 111 8 (out'.map Ft.cells), mp b1 encR 2 (pm'.map fun p => (p.1, Value.int .i64 p.2)), mp b2 encI 1 ruleM]) := by
 refine Tri.enter (args := [.pointer (some ⟨gb, 0, none⟩), .agg #[.int .i64 e.kind, .int .i64 e.tick, .int .i64 e.s, .int .i64 e.id, .int .i64 e.code, .int .i64 e.a, .int .i64 e.b]]) (body := _) 66 Tryz.func63 rfl Tryz.ntmps63 rfl ?_
 intro w0
 refine J.seq ?_
 refine J.region ?_
 refine O.l (Lo.box [.int .i64 e.kind, .int .i64 e.tick, .int .i64 e.s, .int .i64 e.id, .int .i64 e.code, .int .i64 e.a, .int .i64 e.b] rfl rfl) rfl ?_
 rintro _ _ ⟨g1, rfl, rfl⟩
 refine O.p (Pu.assign rfl) rfl ?_
 refine O.nil ?_
 refine J.seq ?_
 refine J.seq ?_
 refine J.region ?_
 refine O.p (Pu.fieldAddr (off' := 0) Tryz.runUnderlying47 rfl Tryz.sizeOf3 rfl rfl rfl) rfl ?_
 refine O.q (Qt.ld rfl (Cel.var 0 rfl) (o := 0) (off := 0) rfl (Cut.one Tryz.isAgg3 rfl)) rfl ?_
 refine O.p (Pu.eql rfl rfl) rfl ?_
 refine O.nil ?_
 refine J.cond rfl (fun h2 => ?_) (fun h2 => ?_)
 ·
  have p3 := of_decide_eq_true h2
  refine J.seq ?_
  refine J.region ?_
  refine O.p (Pu.move rfl) rfl ?_
  refine O.q (Qt.ld rfl (Cel.var 0 rfl) (o := 0) (off := 0) rfl (Cut.agg [.int .i64 e.kind, .int .i64 e.tick, .int .i64 e.s, .int .i64 e.id, .int .i64 e.code, .int .i64 e.a, .int .i64 e.b] Tryz.isAgg47 Tryz.sizeOf47 rfl rfl)) rfl ?_
  refine O.l (Lo.call [.pointer (some ⟨gb, 0, none⟩), .agg #[.int .i64 e.kind, .int .i64 e.tick, .int .i64 e.s, .int .i64 e.id, .int .i64 e.code, .int .i64 e.a, .int .i64 e.b]] (by exact Tryz.call88) rfl (ld_came gb b1 b2 V out pm e hfit (by omega)) [1, 2, 3] [0, 4] (by decide) rfl [var g1 [.int .i64 e.kind, .int .i64 e.tick, .int .i64 e.s, .int .i64 e.id, .int .i64 e.code, .int .i64 e.a, .int .i64 e.b] 47, mp b2 encI 1 ruleM] rfl RoOk.nil) rfl ?_
  rintro _ _ ⟨_, ⟨V4, pm5, o6, rfl, ho7, hf8, rfl⟩, rfl⟩
  refine O.p (Pu.assign rfl) rfl ?_
  refine O.nil ?_
  exact J.ret (Fin.ret (rs := [.tmp 4]) rfl [_] ⟨rfl, trivial⟩ [0, 1, 2, 4] (by decide) [var gb [V4, .map (some b1), .map (some b2)] 105, row V4 111 8 (o6.map Ft.cells), mp b1 encR 2 (pm5.map fun p => (p.1, Value.int .i64 p.2)), mp b2 encI 1 ruleM] rfl ⟨V4, pm5, o6, (by rw [Ld.step_came (by omega)]; rfl), (by rw [Ld.step_came (by omega)]; exact ho7), hf8, rfl⟩)
 ·
  have p10 := of_decide_eq_false h2
  refine J.skip ?_
  refine J.seq ?_
  refine J.drawMix [(0, false), (1, false), (2, false), (3, false), (4, false), (5, false), (6, false), (7, false), (8, false), (9, false), (10, true), (11, true), (12, false)] [0, 1, 4] [var g1 [.int .i64 e.kind, .int .i64 e.tick, .int .i64 e.s, .int .i64 e.id, .int .i64 e.code, .int .i64 e.a, .int .i64 e.b] 47, var gb [V, .map (some b1), .map (some b2)] 105, mp b2 encI 1 ruleM] Tryz.mixed (by kernel_rfl) (by decide) rfl ?_
  refine Mx.p rfl (Pu.move rfl) rfl ?_
  refine Mx.p rfl (Pu.nilCheck rfl) rfl ?_
  refine Mx.p rfl (Pu.fieldAddr (off' := 2) Tryz.runUnderlying105 rfl Tryz.sizeOf102 rfl rfl rfl) rfl ?_
  refine Mx.q rfl (Qt.ld rfl (Cel.var 1 rfl) (o := 0) (off := 2) rfl (Cut.one Tryz.isAgg102 rfl)) rfl ?_
  refine Mx.p rfl (Pu.fieldAddr (off' := 0) Tryz.runUnderlying47 rfl Tryz.sizeOf3 rfl rfl rfl) rfl ?_
  refine Mx.q rfl (Qt.ld rfl (Cel.var 0 rfl) (o := 0) (off := 0) rfl (Cut.one Tryz.isAgg3 rfl)) rfl ?_
  refine by_bool (decide (e.kind = 3)) (fun h11 => ?_) (fun h11 => ?_)
  ·
   have p12 := of_decide_eq_true h11
   refine Mx.q rfl (Qt.lookC 2 (key := [e.kind]) (u := .agg #[.func (.func 80) #[] #[], .func (.func 81) #[] #[]]) (q := true) Tryz.underlying102 (KT.int Tryz.underlying3) Tryz.zeroValue125 rfl rfl rfl rfl rfl (by simp only [ruleM, getM, List.cons.injEq, and_true]; (repeat' split) <;> first | (exfalso; omega) | exact ⟨rfl, rfl⟩)) rfl ?_
   refine Mx.p rfl (Pu.move rfl) rfl ?_
   refine Mx.p rfl (Pu.extract rfl rfl) rfl ?_
   refine Mx.p rfl (Pu.extract rfl rfl) rfl ?_
   refine Mx.l rfl (Lo.alloc [Value.nilFunc, Value.nilFunc] (by exact Tryz.zeroValue125) rfl) rfl ?_
   rintro _ _ ⟨g13, rfl, rfl⟩
   refine MxK.go [1, 2, 5] [0, 1, 2] [var g1 [.int .i64 e.kind, .int .i64 e.tick, .int .i64 e.s, .int .i64 e.id, .int .i64 e.code, .int .i64 e.a, .int .i64 e.b] 47, var gb [V, .map (some b1), .map (some b2)] 105, mp b2 encI 1 ruleM] (by decide) rfl (by decide) rfl ?_
   refine Mx.l0 rfl (Lo.store 0 (vs := [.func (.func 80) #[] #[], .func (.func 81) #[] #[]]) [.func (.func 80) #[] #[], .func (.func 81) #[] #[]] rfl rfl rfl (by exact Tryz.sizeOf125) rfl rfl rfl rfl rfl) ?_
   rintro _ _ rfl
   refine MxK.go [1, 2, 5] [0, 1, 2] [var g1 [.int .i64 e.kind, .int .i64 e.tick, .int .i64 e.s, .int .i64 e.id, .int .i64 e.code, .int .i64 e.a, .int .i64 e.b] 47, var gb [V, .map (some b1), .map (some b2)] 105, mp b2 encI 1 ruleM] (by decide) rfl (by decide) rfl ?_
   refine Mx.p rfl (Pu.assign rfl) rfl ?_
   refine Mx.nil ?_
   refine J.seq ?_
   refine J.seq ?_
   refine J.region ?_
   refine O.p (Pu.move rfl) rfl ?_
   refine O.p (Pu.not rfl) rfl ?_
   refine O.nil ?_
   refine J.condF rfl rfl ?_
   refine J.skip ?_
   refine J.seq ?_
   refine J.drawStill Tryz.mixed (by kernel_rfl) ?_
   refine S.p (Pu.move rfl) rfl ?_
   refine S.p (Pu.nilCheck rfl) rfl ?_
   refine S.p (Pu.fieldAddr (off' := 1) Tryz.runUnderlying105 rfl Tryz.sizeOf101 rfl rfl rfl) rfl ?_
   refine S.q (Qt.ld rfl (Cel.var 2 rfl) (o := 0) (off := 1) rfl (Cut.one Tryz.isAgg101 rfl)) rfl ?_
   refine S.p (Pu.fieldAddr (off' := 2) Tryz.runUnderlying47 rfl Tryz.sizeOf3 rfl rfl rfl) rfl ?_
   refine S.q (Qt.ld rfl (Cel.var 1 rfl) (o := 0) (off := 2) rfl (Cut.one Tryz.isAgg3 rfl)) rfl ?_
   refine S.p (Pu.fieldAddr (off' := 3) Tryz.runUnderlying47 rfl Tryz.sizeOf3 rfl rfl rfl) rfl ?_
   refine S.q (Qt.ld rfl (Cel.var 1 rfl) (o := 0) (off := 3) rfl (Cut.one Tryz.isAgg3 rfl)) rfl ?_
   refine S.p (Pu.build [(0, .int .i64 e.s), (1, .int .i64 e.id)] [.int .i64 e.s, .int .i64 e.id] #[(0, 1), (1, 1)] Tryz.runUnderlying130 Tryz.zeroValue130 (places130 Tryz.underlying130) rfl (by kernel_rfl)) rfl ?_
   refine S.q (Qt.lookI 4 (key := [e.s, e.id]) Tryz.underlying101 (KT.str Tryz.underlying130 Tryz.stoodInHeld130 (fint130 Tryz.underlying130)) Tryz.zeroValue3 rfl rfl rfl rfl rfl) rfl ?_
   refine S.p (Pu.move rfl) rfl ?_
   refine S.p (Pu.extract rfl rfl) rfl ?_
   refine S.p (Pu.extract rfl rfl) rfl ?_
   refine S.p (Pu.assign rfl) rfl ?_
   refine S.p (Pu.assign rfl) rfl ?_
   refine S.endJ ?_
   refine J.seq ?_
   refine J.seq ?_
   refine J.drawTail 13 Tryz.mixed (by kernel_rfl) ?_
   refine S.p (Pu.move rfl) rfl ?_
   refine S.p (Pu.not rfl) rfl ?_
   refine S.p (Pu.move rfl) rfl ?_
   refine by_bool (!((getM pm [e.s, e.id]).isSome)) (fun h14 => ?_) (fun h14 => ?_)
   ·
    have h15 : ((getM pm [e.s, e.id]).isSome) = false := not_flip h14
    refine S.gskip (t := 42) rfl rfl (no_bool (by rw [h14]; decide)) rfl rfl ?_
    refine S.gskip (t := 42) rfl rfl (no_bool (by rw [h14]; decide)) rfl rfl ?_
    refine S.gskip (t := 42) rfl rfl (no_bool (by rw [h14]; decide)) rfl rfl ?_
    refine S.gskip (t := 42) rfl rfl (no_bool (by rw [h14]; decide)) rfl rfl ?_
    refine S.gskip (t := 42) rfl rfl (no_bool (by rw [h14]; decide)) rfl rfl ?_
    refine S.gskip (t := 42) rfl rfl (no_bool (by rw [h14]; decide)) rfl rfl ?_
    refine S.gskip (t := 42) rfl rfl (no_bool (by rw [h14]; decide)) rfl rfl ?_
    refine S.gskip (t := 42) rfl rfl (no_bool (by rw [h14]; decide)) rfl rfl ?_
    refine S.gskip (t := 42) rfl rfl (no_bool (by rw [h14]; decide)) rfl rfl ?_
    refine S.gskip (t := 42) rfl rfl (no_bool (by rw [h14]; decide)) rfl rfl ?_
    refine S.endO ?_
    refine O.gskip (t := 42) rfl rfl (no_bool (by rw [h14]; decide)) rfl rfl ?_
    refine O.gskip (t := 42) rfl rfl (no_bool (by rw [h14]; decide)) rfl rfl ?_
    refine O.p (Pu.pickT rfl h14 rfl) rfl ?_
    refine O.nil ?_
    refine J.condT rfl rfl ?_
    refine J.seq ?_
    refine J.region ?_
    refine O.p (Pu.assign rfl) rfl ?_
    refine O.nil ?_
    exact J.ret (Fin.ret (rs := [.tmp 4]) rfl [_] ⟨rfl, trivial⟩ [2, 3, 4, 5] (by decide) [var gb [V, .map (some b1), .map (some b2)] 105, row V 111 8 (out.map Ft.cells), mp b1 encR 2 (pm.map fun p => (p.1, Value.int .i64 p.2)), mp b2 encI 1 ruleM] rfl ⟨V, pm, out, (by rw [(Ld.step_unknown (kd := 3) (by omega) (by decide) (by decide) hfit ‹_›)]; rfl), (by rw [(Ld.step_unknown (kd := 3) (by omega) (by decide) (by decide) hfit ‹_›)]; rfl), hfit, rfl⟩)
   ·
    have h16 : ((getM pm [e.s, e.id]).isSome) = true := not_flip h14
    refine S.gq (t := 42) rfl rfl h14 rfl (Pu.qt (Pu.fieldAddr (off' := 0) Tryz.runUnderlying125 rfl Tryz.sizeOf121 rfl rfl rfl)) rfl ?_
    refine S.gq (t := 42) rfl rfl h14 rfl (Qt.ld rfl (Cel.var 0 rfl) (o := 0) (off := 0) rfl (Cut.one Tryz.isAgg121 rfl)) rfl ?_
    refine S.gq (t := 42) rfl rfl h14 rfl (Pu.qt (Pu.move rfl)) rfl ?_
    refine S.gq (t := 42) rfl rfl h14 rfl (Pu.qt (Pu.nilCheck rfl)) rfl ?_
    refine S.gq (t := 42) rfl rfl h14 rfl (Pu.qt (Pu.fieldAddr (off' := 0) Tryz.runUnderlying105 rfl Tryz.sizeOf66 rfl rfl rfl)) rfl ?_
    refine S.gq (t := 42) rfl rfl h14 rfl (Qt.ld rfl (Cel.var 2 rfl) (o := 0) (off := 0) rfl (Cut.one Tryz.isAgg66 rfl)) rfl ?_
    refine S.gq (t := 42) rfl rfl h14 rfl (Pu.qt (Pu.move rfl)) rfl ?_
    obtain ⟨e17, he17⟩ : ∃ x_, out[((getM pm [e.s, e.id]).getD 0).toNat]? = some x_ := ⟨_, List.getElem?_eq_getElem (by first | omega | exact (Ld.fits_at hfit ‹_›).1 | exact (Ld.fits_at hfit ‹_›).2.1 | exact (Ld.fits_at hfit ‹_›).2.2.1 | (simp only [List.length_append, List.length_cons, List.length_nil, List.length_set]; omega))⟩
    refine S.gq (t := 42) rfl rfl h14 rfl (Qt.idxM Tryz.runUnderlying66 Tryz.sizeOf111 rfl (Src.row 3 rfl) rfl (by first | omega | exact (Ld.fits_at hfit ‹_›).1 | exact (Ld.fits_at hfit ‹_›).2.1 | exact (Ld.fits_at hfit ‹_›).2.2.1 | (simp only [List.length_append, List.length_cons, List.length_nil, List.length_set]; omega)) (by first | omega | exact (Ld.fits_at hfit ‹_›).1 | exact (Ld.fits_at hfit ‹_›).2.1 | exact (Ld.fits_at hfit ‹_›).2.2.1 | (simp only [List.length_append, List.length_cons, List.length_nil, List.length_set]; omega))) rfl ?_
    refine S.gq (t := 42) rfl rfl h14 rfl (Qt.ld rfl (Cel.eltM (Src.row 3 rfl) he17) (o := (voff V + (((getM pm [e.s, e.id]).getD 0).toNat) * 8)) (off := 0) (by omega) (Cut.agg [.int .i64 e17.s, .int .i64 e17.id, .int .i64 e17.state, .int .i64 e17.level, .int .i64 e17.code, .int .i64 e17.came, .int .i64 e17.began, .int .i64 e17.ended] Tryz.isAgg111 Tryz.sizeOf111 rfl rfl)) rfl ?_
    refine S.gq (t := 42) rfl rfl h14 rfl (Qt.ld rfl (Cel.var 1 rfl) (o := 0) (off := 0) rfl (Cut.agg [.int .i64 e.kind, .int .i64 e.tick, .int .i64 e.s, .int .i64 e.id, .int .i64 e.code, .int .i64 e.a, .int .i64 e.b] Tryz.isAgg47 Tryz.sizeOf47 rfl rfl)) rfl ?_
    refine S.endO ?_
    refine O.gl (t := 42) rfl rfl h14 rfl (Lo.callV (vs := [.agg #[.int .i64 e17.s, .int .i64 e17.id, .int .i64 e17.state, .int .i64 e17.level, .int .i64 e17.code, .int .i64 e17.came, .int .i64 e17.began, .int .i64 e17.ended], .agg #[.int .i64 e.kind, .int .i64 e.tick, .int .i64 e.s, .int .i64 e.id, .int .i64 e.code, .int .i64 e.a, .int .i64 e.b]]) (caps := []) (by exact Tryz.call80) rfl rfl (ld_may3 e17 e) [] [0, 1, 2, 3, 4, 5] (by decide) rfl [var g13 [.func (.func 80) #[] #[], .func (.func 81) #[] #[]] 125, var g1 [.int .i64 e.kind, .int .i64 e.tick, .int .i64 e.s, .int .i64 e.id, .int .i64 e.code, .int .i64 e.a, .int .i64 e.b] 47, var gb [V, .map (some b1), .map (some b2)] 105, row V 111 8 (out.map Ft.cells), mp b1 encR 2 (pm.map fun p => (p.1, Value.int .i64 p.2)), mp b2 encI 1 ruleM] rfl RoOk.nil) rfl ?_
    rintro _ _ ⟨_, ⟨rfl, rfl⟩, rfl⟩
    refine O.gq (t := 42) rfl rfl h14 rfl (Pu.qt (Pu.not rfl)) rfl ?_
    refine O.p (Pu.pickF rfl h14 rfl) rfl ?_
    refine O.nil ?_
    refine J.cond rfl (fun h19 => ?_) (fun h19 => ?_)
    ·
     have h20 : (Ld.may 3 e17 e) = false := not_flip h19
     refine J.seq ?_
     refine J.region ?_
     refine O.p (Pu.assign rfl) rfl ?_
     refine O.nil ?_
     exact J.ret (Fin.ret (rs := [.tmp 4]) rfl [_] ⟨rfl, trivial⟩ [2, 3, 4, 5] (by decide) [var gb [V, .map (some b1), .map (some b2)] 105, row V 111 8 (out.map Ft.cells), mp b1 encR 2 (pm.map fun p => (p.1, Value.int .i64 p.2)), mp b2 encI 1 ruleM] rfl ⟨V, pm, out, (by rw [(Ld.step_not (kd := 3) (by omega) (by decide) (by decide) hfit ‹_› ‹_› h20)]; rfl), (by rw [(Ld.step_not (kd := 3) (by omega) (by decide) (by decide) hfit ‹_› ‹_› h20)]; rfl), hfit, rfl⟩)
    ·
     have h21 : (Ld.may 3 e17 e) = true := not_flip h19
     refine J.skip ?_
     refine J.seq ?_
     refine J.drawTail 9 Tryz.mixed (by kernel_rfl) ?_
     refine S.p (Pu.fieldAddr (off' := 1) Tryz.runUnderlying125 rfl Tryz.sizeOf123 rfl rfl rfl) rfl ?_
     refine S.q (Qt.ld rfl (Cel.var 0 rfl) (o := 0) (off := 1) rfl (Cut.one Tryz.isAgg123 rfl)) rfl ?_
     refine S.p (Pu.move rfl) rfl ?_
     refine S.p (Pu.nilCheck rfl) rfl ?_
     refine S.p (Pu.fieldAddr (off' := 0) Tryz.runUnderlying105 rfl Tryz.sizeOf66 rfl rfl rfl) rfl ?_
     refine S.q (Qt.ld rfl (Cel.var 2 rfl) (o := 0) (off := 0) rfl (Cut.one Tryz.isAgg66 rfl)) rfl ?_
     refine S.p (Pu.move rfl) rfl ?_
     refine S.q (Qt.idxM Tryz.runUnderlying66 Tryz.sizeOf111 rfl (Src.row 3 rfl) rfl (by first | omega | exact (Ld.fits_at hfit ‹_›).1 | exact (Ld.fits_at hfit ‹_›).2.1 | exact (Ld.fits_at hfit ‹_›).2.2.1 | (simp only [List.length_append, List.length_cons, List.length_nil, List.length_set]; omega)) (by first | omega | exact (Ld.fits_at hfit ‹_›).1 | exact (Ld.fits_at hfit ‹_›).2.1 | exact (Ld.fits_at hfit ‹_›).2.2.1 | (simp only [List.length_append, List.length_cons, List.length_nil, List.length_set]; omega))) rfl ?_
     refine S.q (Qt.ld rfl (Cel.var 1 rfl) (o := 0) (off := 0) rfl (Cut.agg [.int .i64 e.kind, .int .i64 e.tick, .int .i64 e.s, .int .i64 e.id, .int .i64 e.code, .int .i64 e.a, .int .i64 e.b] Tryz.isAgg47 Tryz.sizeOf47 rfl rfl)) rfl ?_
     refine S.endO ?_
     refine O.l (Lo.callV (vs := [.pointer (some ⟨(vblk V), voff V + ((getM pm [e.s, e.id]).getD 0).toNat * 8, none⟩), .agg #[.int .i64 e.kind, .int .i64 e.tick, .int .i64 e.s, .int .i64 e.id, .int .i64 e.code, .int .i64 e.a, .int .i64 e.b]]) (caps := []) (by exact Tryz.call81) rfl rfl (ld_does4 ((getM pm [e.s, e.id]).getD 0) e17 e V out he17) [3] [0, 1, 2, 4, 5] (by decide) rfl [var g13 [.func (.func 80) #[] #[], .func (.func 81) #[] #[]] 125, var g1 [.int .i64 e.kind, .int .i64 e.tick, .int .i64 e.s, .int .i64 e.id, .int .i64 e.code, .int .i64 e.a, .int .i64 e.b] 47, var gb [V, .map (some b1), .map (some b2)] 105, mp b1 encR 2 (pm.map fun p => (p.1, Value.int .i64 p.2)), mp b2 encI 1 ruleM] rfl RoOk.nil) rfl ?_
     rintro _ _ ⟨_, ⟨rfl, rfl⟩, rfl⟩
     refine O.nil ?_
     refine J.seq ?_
     refine J.region ?_
     refine O.p (Pu.assign rfl) rfl ?_
     refine O.nil ?_
     exact J.ret (Fin.ret (rs := [.tmp 4]) rfl [_] ⟨rfl, trivial⟩ [3, 0, 4, 5] (by decide) [var gb [V, .map (some b1), .map (some b2)] 105, row V 111 8 ((out.set ((getM pm [e.s, e.id]).getD 0).toNat (Ld.does 3 e17 e)).map Ft.cells), mp b1 encR 2 (pm.map fun p => (p.1, Value.int .i64 p.2)), mp b2 encI 1 ruleM] rfl ⟨V, pm, out.set ((getM pm [e.s, e.id]).getD 0).toNat (Ld.does 3 e17 e), (by rw [(Ld.step_does (kd := 3) (by omega) (by decide) (by decide) hfit ‹_› ‹_› (by first | assumption | exact (show Ld.may 3 _ e = true from (by assumption : Ld.may 5 _ e = true))))]; rfl), (by rw [(Ld.step_does (kd := 3) (by omega) (by decide) (by decide) hfit ‹_› ‹_› (by first | assumption | exact (show Ld.may 3 _ e = true from (by assumption : Ld.may 5 _ e = true))))]; rfl), Ld.fits_set hfit ‹_› Ld.does_same.1 Ld.does_same.2, rfl⟩)
  ·
   have p23 := of_decide_eq_false h11
   refine by_bool (decide (e.kind = 4)) (fun h24 => ?_) (fun h24 => ?_)
   ·
    have p25 := of_decide_eq_true h24
    refine Mx.q rfl (Qt.lookC 2 (key := [e.kind]) (u := .agg #[.func (.func 82) #[] #[], .func (.func 84) #[] #[]]) (q := true) Tryz.underlying102 (KT.int Tryz.underlying3) Tryz.zeroValue125 rfl rfl rfl rfl rfl (by simp only [ruleM, getM, List.cons.injEq, and_true]; (repeat' split) <;> first | (exfalso; omega) | exact ⟨rfl, rfl⟩)) rfl ?_
    refine Mx.p rfl (Pu.move rfl) rfl ?_
    refine Mx.p rfl (Pu.extract rfl rfl) rfl ?_
    refine Mx.p rfl (Pu.extract rfl rfl) rfl ?_
    refine Mx.l rfl (Lo.alloc [Value.nilFunc, Value.nilFunc] (by exact Tryz.zeroValue125) rfl) rfl ?_
    rintro _ _ ⟨g26, rfl, rfl⟩
    refine MxK.go [1, 2, 5] [0, 1, 2] [var g1 [.int .i64 e.kind, .int .i64 e.tick, .int .i64 e.s, .int .i64 e.id, .int .i64 e.code, .int .i64 e.a, .int .i64 e.b] 47, var gb [V, .map (some b1), .map (some b2)] 105, mp b2 encI 1 ruleM] (by decide) rfl (by decide) rfl ?_
    refine Mx.l0 rfl (Lo.store 0 (vs := [.func (.func 82) #[] #[], .func (.func 84) #[] #[]]) [.func (.func 82) #[] #[], .func (.func 84) #[] #[]] rfl rfl rfl (by exact Tryz.sizeOf125) rfl rfl rfl rfl rfl) ?_
    rintro _ _ rfl
    refine MxK.go [1, 2, 5] [0, 1, 2] [var g1 [.int .i64 e.kind, .int .i64 e.tick, .int .i64 e.s, .int .i64 e.id, .int .i64 e.code, .int .i64 e.a, .int .i64 e.b] 47, var gb [V, .map (some b1), .map (some b2)] 105, mp b2 encI 1 ruleM] (by decide) rfl (by decide) rfl ?_
    refine Mx.p rfl (Pu.assign rfl) rfl ?_
    refine Mx.nil ?_
    refine J.seq ?_
    refine J.seq ?_
    refine J.region ?_
    refine O.p (Pu.move rfl) rfl ?_
    refine O.p (Pu.not rfl) rfl ?_
    refine O.nil ?_
    refine J.condF rfl rfl ?_
    refine J.skip ?_
    refine J.seq ?_
    refine J.drawStill Tryz.mixed (by kernel_rfl) ?_
    refine S.p (Pu.move rfl) rfl ?_
    refine S.p (Pu.nilCheck rfl) rfl ?_
    refine S.p (Pu.fieldAddr (off' := 1) Tryz.runUnderlying105 rfl Tryz.sizeOf101 rfl rfl rfl) rfl ?_
    refine S.q (Qt.ld rfl (Cel.var 2 rfl) (o := 0) (off := 1) rfl (Cut.one Tryz.isAgg101 rfl)) rfl ?_
    refine S.p (Pu.fieldAddr (off' := 2) Tryz.runUnderlying47 rfl Tryz.sizeOf3 rfl rfl rfl) rfl ?_
    refine S.q (Qt.ld rfl (Cel.var 1 rfl) (o := 0) (off := 2) rfl (Cut.one Tryz.isAgg3 rfl)) rfl ?_
    refine S.p (Pu.fieldAddr (off' := 3) Tryz.runUnderlying47 rfl Tryz.sizeOf3 rfl rfl rfl) rfl ?_
    refine S.q (Qt.ld rfl (Cel.var 1 rfl) (o := 0) (off := 3) rfl (Cut.one Tryz.isAgg3 rfl)) rfl ?_
    refine S.p (Pu.build [(0, .int .i64 e.s), (1, .int .i64 e.id)] [.int .i64 e.s, .int .i64 e.id] #[(0, 1), (1, 1)] Tryz.runUnderlying130 Tryz.zeroValue130 (places130 Tryz.underlying130) rfl (by kernel_rfl)) rfl ?_
    refine S.q (Qt.lookI 4 (key := [e.s, e.id]) Tryz.underlying101 (KT.str Tryz.underlying130 Tryz.stoodInHeld130 (fint130 Tryz.underlying130)) Tryz.zeroValue3 rfl rfl rfl rfl rfl) rfl ?_
    refine S.p (Pu.move rfl) rfl ?_
    refine S.p (Pu.extract rfl rfl) rfl ?_
    refine S.p (Pu.extract rfl rfl) rfl ?_
    refine S.p (Pu.assign rfl) rfl ?_
    refine S.p (Pu.assign rfl) rfl ?_
    refine S.endJ ?_
    refine J.seq ?_
    refine J.seq ?_
    refine J.drawTail 13 Tryz.mixed (by kernel_rfl) ?_
    refine S.p (Pu.move rfl) rfl ?_
    refine S.p (Pu.not rfl) rfl ?_
    refine S.p (Pu.move rfl) rfl ?_
    refine by_bool (!((getM pm [e.s, e.id]).isSome)) (fun h27 => ?_) (fun h27 => ?_)
    ·
     have h28 : ((getM pm [e.s, e.id]).isSome) = false := not_flip h27
     refine S.gskip (t := 42) rfl rfl (no_bool (by rw [h27]; decide)) rfl rfl ?_
     refine S.gskip (t := 42) rfl rfl (no_bool (by rw [h27]; decide)) rfl rfl ?_
     refine S.gskip (t := 42) rfl rfl (no_bool (by rw [h27]; decide)) rfl rfl ?_
     refine S.gskip (t := 42) rfl rfl (no_bool (by rw [h27]; decide)) rfl rfl ?_
     refine S.gskip (t := 42) rfl rfl (no_bool (by rw [h27]; decide)) rfl rfl ?_
     refine S.gskip (t := 42) rfl rfl (no_bool (by rw [h27]; decide)) rfl rfl ?_
     refine S.gskip (t := 42) rfl rfl (no_bool (by rw [h27]; decide)) rfl rfl ?_
     refine S.gskip (t := 42) rfl rfl (no_bool (by rw [h27]; decide)) rfl rfl ?_
     refine S.gskip (t := 42) rfl rfl (no_bool (by rw [h27]; decide)) rfl rfl ?_
     refine S.gskip (t := 42) rfl rfl (no_bool (by rw [h27]; decide)) rfl rfl ?_
     refine S.endO ?_
     refine O.gskip (t := 42) rfl rfl (no_bool (by rw [h27]; decide)) rfl rfl ?_
     refine O.gskip (t := 42) rfl rfl (no_bool (by rw [h27]; decide)) rfl rfl ?_
     refine O.p (Pu.pickT rfl h27 rfl) rfl ?_
     refine O.nil ?_
     refine J.condT rfl rfl ?_
     refine J.seq ?_
     refine J.region ?_
     refine O.p (Pu.assign rfl) rfl ?_
     refine O.nil ?_
     exact J.ret (Fin.ret (rs := [.tmp 4]) rfl [_] ⟨rfl, trivial⟩ [2, 3, 4, 5] (by decide) [var gb [V, .map (some b1), .map (some b2)] 105, row V 111 8 (out.map Ft.cells), mp b1 encR 2 (pm.map fun p => (p.1, Value.int .i64 p.2)), mp b2 encI 1 ruleM] rfl ⟨V, pm, out, (by rw [(Ld.step_unknown (kd := 4) (by omega) (by decide) (by decide) hfit ‹_›)]; rfl), (by rw [(Ld.step_unknown (kd := 4) (by omega) (by decide) (by decide) hfit ‹_›)]; rfl), hfit, rfl⟩)
    ·
     have h29 : ((getM pm [e.s, e.id]).isSome) = true := not_flip h27
     refine S.gq (t := 42) rfl rfl h27 rfl (Pu.qt (Pu.fieldAddr (off' := 0) Tryz.runUnderlying125 rfl Tryz.sizeOf121 rfl rfl rfl)) rfl ?_
     refine S.gq (t := 42) rfl rfl h27 rfl (Qt.ld rfl (Cel.var 0 rfl) (o := 0) (off := 0) rfl (Cut.one Tryz.isAgg121 rfl)) rfl ?_
     refine S.gq (t := 42) rfl rfl h27 rfl (Pu.qt (Pu.move rfl)) rfl ?_
     refine S.gq (t := 42) rfl rfl h27 rfl (Pu.qt (Pu.nilCheck rfl)) rfl ?_
     refine S.gq (t := 42) rfl rfl h27 rfl (Pu.qt (Pu.fieldAddr (off' := 0) Tryz.runUnderlying105 rfl Tryz.sizeOf66 rfl rfl rfl)) rfl ?_
     refine S.gq (t := 42) rfl rfl h27 rfl (Qt.ld rfl (Cel.var 2 rfl) (o := 0) (off := 0) rfl (Cut.one Tryz.isAgg66 rfl)) rfl ?_
     refine S.gq (t := 42) rfl rfl h27 rfl (Pu.qt (Pu.move rfl)) rfl ?_
     obtain ⟨e30, he30⟩ : ∃ x_, out[((getM pm [e.s, e.id]).getD 0).toNat]? = some x_ := ⟨_, List.getElem?_eq_getElem (by first | omega | exact (Ld.fits_at hfit ‹_›).1 | exact (Ld.fits_at hfit ‹_›).2.1 | exact (Ld.fits_at hfit ‹_›).2.2.1 | (simp only [List.length_append, List.length_cons, List.length_nil, List.length_set]; omega))⟩
     refine S.gq (t := 42) rfl rfl h27 rfl (Qt.idxM Tryz.runUnderlying66 Tryz.sizeOf111 rfl (Src.row 3 rfl) rfl (by first | omega | exact (Ld.fits_at hfit ‹_›).1 | exact (Ld.fits_at hfit ‹_›).2.1 | exact (Ld.fits_at hfit ‹_›).2.2.1 | (simp only [List.length_append, List.length_cons, List.length_nil, List.length_set]; omega)) (by first | omega | exact (Ld.fits_at hfit ‹_›).1 | exact (Ld.fits_at hfit ‹_›).2.1 | exact (Ld.fits_at hfit ‹_›).2.2.1 | (simp only [List.length_append, List.length_cons, List.length_nil, List.length_set]; omega))) rfl ?_
     refine S.gq (t := 42) rfl rfl h27 rfl (Qt.ld rfl (Cel.eltM (Src.row 3 rfl) he30) (o := (voff V + (((getM pm [e.s, e.id]).getD 0).toNat) * 8)) (off := 0) (by omega) (Cut.agg [.int .i64 e30.s, .int .i64 e30.id, .int .i64 e30.state, .int .i64 e30.level, .int .i64 e30.code, .int .i64 e30.came, .int .i64 e30.began, .int .i64 e30.ended] Tryz.isAgg111 Tryz.sizeOf111 rfl rfl)) rfl ?_
     refine S.gq (t := 42) rfl rfl h27 rfl (Qt.ld rfl (Cel.var 1 rfl) (o := 0) (off := 0) rfl (Cut.agg [.int .i64 e.kind, .int .i64 e.tick, .int .i64 e.s, .int .i64 e.id, .int .i64 e.code, .int .i64 e.a, .int .i64 e.b] Tryz.isAgg47 Tryz.sizeOf47 rfl rfl)) rfl ?_
     refine S.endO ?_
     refine O.gl (t := 42) rfl rfl h27 rfl (Lo.callV (vs := [.agg #[.int .i64 e30.s, .int .i64 e30.id, .int .i64 e30.state, .int .i64 e30.level, .int .i64 e30.code, .int .i64 e30.came, .int .i64 e30.began, .int .i64 e30.ended], .agg #[.int .i64 e.kind, .int .i64 e.tick, .int .i64 e.s, .int .i64 e.id, .int .i64 e.code, .int .i64 e.a, .int .i64 e.b]]) (caps := []) (by exact Tryz.call82) rfl rfl (ld_may5 e30 e) [] [0, 1, 2, 3, 4, 5] (by decide) rfl [var g26 [.func (.func 82) #[] #[], .func (.func 84) #[] #[]] 125, var g1 [.int .i64 e.kind, .int .i64 e.tick, .int .i64 e.s, .int .i64 e.id, .int .i64 e.code, .int .i64 e.a, .int .i64 e.b] 47, var gb [V, .map (some b1), .map (some b2)] 105, row V 111 8 (out.map Ft.cells), mp b1 encR 2 (pm.map fun p => (p.1, Value.int .i64 p.2)), mp b2 encI 1 ruleM] rfl RoOk.nil) rfl ?_
     rintro _ _ ⟨_, ⟨rfl, rfl⟩, rfl⟩
     refine O.gq (t := 42) rfl rfl h27 rfl (Pu.qt (Pu.not rfl)) rfl ?_
     refine O.p (Pu.pickF rfl h27 rfl) rfl ?_
     refine O.nil ?_
     refine J.cond rfl (fun h32 => ?_) (fun h32 => ?_)
     ·
      have h33 : (Ld.may 4 e30 e) = false := not_flip h32
      refine J.seq ?_
      refine J.region ?_
      refine O.p (Pu.assign rfl) rfl ?_
      refine O.nil ?_
      exact J.ret (Fin.ret (rs := [.tmp 4]) rfl [_] ⟨rfl, trivial⟩ [2, 3, 4, 5] (by decide) [var gb [V, .map (some b1), .map (some b2)] 105, row V 111 8 (out.map Ft.cells), mp b1 encR 2 (pm.map fun p => (p.1, Value.int .i64 p.2)), mp b2 encI 1 ruleM] rfl ⟨V, pm, out, (by rw [(Ld.step_not (kd := 4) (by omega) (by decide) (by decide) hfit ‹_› ‹_› h33)]; rfl), (by rw [(Ld.step_not (kd := 4) (by omega) (by decide) (by decide) hfit ‹_› ‹_› h33)]; rfl), hfit, rfl⟩)
     ·
      have h34 : (Ld.may 4 e30 e) = true := not_flip h32
      refine J.skip ?_
      refine J.seq ?_
      refine J.drawTail 9 Tryz.mixed (by kernel_rfl) ?_
      refine S.p (Pu.fieldAddr (off' := 1) Tryz.runUnderlying125 rfl Tryz.sizeOf123 rfl rfl rfl) rfl ?_
      refine S.q (Qt.ld rfl (Cel.var 0 rfl) (o := 0) (off := 1) rfl (Cut.one Tryz.isAgg123 rfl)) rfl ?_
      refine S.p (Pu.move rfl) rfl ?_
      refine S.p (Pu.nilCheck rfl) rfl ?_
      refine S.p (Pu.fieldAddr (off' := 0) Tryz.runUnderlying105 rfl Tryz.sizeOf66 rfl rfl rfl) rfl ?_
      refine S.q (Qt.ld rfl (Cel.var 2 rfl) (o := 0) (off := 0) rfl (Cut.one Tryz.isAgg66 rfl)) rfl ?_
      refine S.p (Pu.move rfl) rfl ?_
      refine S.q (Qt.idxM Tryz.runUnderlying66 Tryz.sizeOf111 rfl (Src.row 3 rfl) rfl (by first | omega | exact (Ld.fits_at hfit ‹_›).1 | exact (Ld.fits_at hfit ‹_›).2.1 | exact (Ld.fits_at hfit ‹_›).2.2.1 | (simp only [List.length_append, List.length_cons, List.length_nil, List.length_set]; omega)) (by first | omega | exact (Ld.fits_at hfit ‹_›).1 | exact (Ld.fits_at hfit ‹_›).2.1 | exact (Ld.fits_at hfit ‹_›).2.2.1 | (simp only [List.length_append, List.length_cons, List.length_nil, List.length_set]; omega))) rfl ?_
      refine S.q (Qt.ld rfl (Cel.var 1 rfl) (o := 0) (off := 0) rfl (Cut.agg [.int .i64 e.kind, .int .i64 e.tick, .int .i64 e.s, .int .i64 e.id, .int .i64 e.code, .int .i64 e.a, .int .i64 e.b] Tryz.isAgg47 Tryz.sizeOf47 rfl rfl)) rfl ?_
      refine S.endO ?_
      refine O.l (Lo.callV (vs := [.pointer (some ⟨(vblk V), voff V + ((getM pm [e.s, e.id]).getD 0).toNat * 8, none⟩), .agg #[.int .i64 e.kind, .int .i64 e.tick, .int .i64 e.s, .int .i64 e.id, .int .i64 e.code, .int .i64 e.a, .int .i64 e.b]]) (caps := []) (by exact Tryz.call84) rfl rfl (ld_does6 ((getM pm [e.s, e.id]).getD 0) e30 e V out he30) [3] [0, 1, 2, 4, 5] (by decide) rfl [var g26 [.func (.func 82) #[] #[], .func (.func 84) #[] #[]] 125, var g1 [.int .i64 e.kind, .int .i64 e.tick, .int .i64 e.s, .int .i64 e.id, .int .i64 e.code, .int .i64 e.a, .int .i64 e.b] 47, var gb [V, .map (some b1), .map (some b2)] 105, mp b1 encR 2 (pm.map fun p => (p.1, Value.int .i64 p.2)), mp b2 encI 1 ruleM] rfl RoOk.nil) rfl ?_
      rintro _ _ ⟨_, ⟨rfl, rfl⟩, rfl⟩
      refine O.nil ?_
      refine J.seq ?_
      refine J.region ?_
      refine O.p (Pu.assign rfl) rfl ?_
      refine O.nil ?_
      exact J.ret (Fin.ret (rs := [.tmp 4]) rfl [_] ⟨rfl, trivial⟩ [3, 0, 4, 5] (by decide) [var gb [V, .map (some b1), .map (some b2)] 105, row V 111 8 ((out.set ((getM pm [e.s, e.id]).getD 0).toNat (Ld.does 4 e30 e)).map Ft.cells), mp b1 encR 2 (pm.map fun p => (p.1, Value.int .i64 p.2)), mp b2 encI 1 ruleM] rfl ⟨V, pm, out.set ((getM pm [e.s, e.id]).getD 0).toNat (Ld.does 4 e30 e), (by rw [(Ld.step_does (kd := 4) (by omega) (by decide) (by decide) hfit ‹_› ‹_› (by first | assumption | exact (show Ld.may 4 _ e = true from (by assumption : Ld.may 5 _ e = true))))]; rfl), (by rw [(Ld.step_does (kd := 4) (by omega) (by decide) (by decide) hfit ‹_› ‹_› (by first | assumption | exact (show Ld.may 4 _ e = true from (by assumption : Ld.may 5 _ e = true))))]; rfl), Ld.fits_set hfit ‹_› Ld.does_same.1 Ld.does_same.2, rfl⟩)
   ·
    have p36 := of_decide_eq_false h24
    refine by_bool (decide (e.kind = 12)) (fun h37 => ?_) (fun h37 => ?_)
    ·
     have p38 := of_decide_eq_true h37
     refine Mx.q rfl (Qt.lookC 2 (key := [e.kind]) (u := .agg #[.func (.func 85) #[] #[], .func (.func 87) #[] #[]]) (q := true) Tryz.underlying102 (KT.int Tryz.underlying3) Tryz.zeroValue125 rfl rfl rfl rfl rfl (by simp only [ruleM, getM, List.cons.injEq, and_true]; (repeat' split) <;> first | (exfalso; omega) | exact ⟨rfl, rfl⟩)) rfl ?_
     refine Mx.p rfl (Pu.move rfl) rfl ?_
     refine Mx.p rfl (Pu.extract rfl rfl) rfl ?_
     refine Mx.p rfl (Pu.extract rfl rfl) rfl ?_
     refine Mx.l rfl (Lo.alloc [Value.nilFunc, Value.nilFunc] (by exact Tryz.zeroValue125) rfl) rfl ?_
     rintro _ _ ⟨g39, rfl, rfl⟩
     refine MxK.go [1, 2, 5] [0, 1, 2] [var g1 [.int .i64 e.kind, .int .i64 e.tick, .int .i64 e.s, .int .i64 e.id, .int .i64 e.code, .int .i64 e.a, .int .i64 e.b] 47, var gb [V, .map (some b1), .map (some b2)] 105, mp b2 encI 1 ruleM] (by decide) rfl (by decide) rfl ?_
     refine Mx.l0 rfl (Lo.store 0 (vs := [.func (.func 85) #[] #[], .func (.func 87) #[] #[]]) [.func (.func 85) #[] #[], .func (.func 87) #[] #[]] rfl rfl rfl (by exact Tryz.sizeOf125) rfl rfl rfl rfl rfl) ?_
     rintro _ _ rfl
     refine MxK.go [1, 2, 5] [0, 1, 2] [var g1 [.int .i64 e.kind, .int .i64 e.tick, .int .i64 e.s, .int .i64 e.id, .int .i64 e.code, .int .i64 e.a, .int .i64 e.b] 47, var gb [V, .map (some b1), .map (some b2)] 105, mp b2 encI 1 ruleM] (by decide) rfl (by decide) rfl ?_
     refine Mx.p rfl (Pu.assign rfl) rfl ?_
     refine Mx.nil ?_
     refine J.seq ?_
     refine J.seq ?_
     refine J.region ?_
     refine O.p (Pu.move rfl) rfl ?_
     refine O.p (Pu.not rfl) rfl ?_
     refine O.nil ?_
     refine J.condF rfl rfl ?_
     refine J.skip ?_
     refine J.seq ?_
     refine J.drawStill Tryz.mixed (by kernel_rfl) ?_
     refine S.p (Pu.move rfl) rfl ?_
     refine S.p (Pu.nilCheck rfl) rfl ?_
     refine S.p (Pu.fieldAddr (off' := 1) Tryz.runUnderlying105 rfl Tryz.sizeOf101 rfl rfl rfl) rfl ?_
     refine S.q (Qt.ld rfl (Cel.var 2 rfl) (o := 0) (off := 1) rfl (Cut.one Tryz.isAgg101 rfl)) rfl ?_
     refine S.p (Pu.fieldAddr (off' := 2) Tryz.runUnderlying47 rfl Tryz.sizeOf3 rfl rfl rfl) rfl ?_
     refine S.q (Qt.ld rfl (Cel.var 1 rfl) (o := 0) (off := 2) rfl (Cut.one Tryz.isAgg3 rfl)) rfl ?_
     refine S.p (Pu.fieldAddr (off' := 3) Tryz.runUnderlying47 rfl Tryz.sizeOf3 rfl rfl rfl) rfl ?_
     refine S.q (Qt.ld rfl (Cel.var 1 rfl) (o := 0) (off := 3) rfl (Cut.one Tryz.isAgg3 rfl)) rfl ?_
     refine S.p (Pu.build [(0, .int .i64 e.s), (1, .int .i64 e.id)] [.int .i64 e.s, .int .i64 e.id] #[(0, 1), (1, 1)] Tryz.runUnderlying130 Tryz.zeroValue130 (places130 Tryz.underlying130) rfl (by kernel_rfl)) rfl ?_
     refine S.q (Qt.lookI 4 (key := [e.s, e.id]) Tryz.underlying101 (KT.str Tryz.underlying130 Tryz.stoodInHeld130 (fint130 Tryz.underlying130)) Tryz.zeroValue3 rfl rfl rfl rfl rfl) rfl ?_
     refine S.p (Pu.move rfl) rfl ?_
     refine S.p (Pu.extract rfl rfl) rfl ?_
     refine S.p (Pu.extract rfl rfl) rfl ?_
     refine S.p (Pu.assign rfl) rfl ?_
     refine S.p (Pu.assign rfl) rfl ?_
     refine S.endJ ?_
     refine J.seq ?_
     refine J.seq ?_
     refine J.drawTail 13 Tryz.mixed (by kernel_rfl) ?_
     refine S.p (Pu.move rfl) rfl ?_
     refine S.p (Pu.not rfl) rfl ?_
     refine S.p (Pu.move rfl) rfl ?_
     refine by_bool (!((getM pm [e.s, e.id]).isSome)) (fun h40 => ?_) (fun h40 => ?_)
     ·
      have h41 : ((getM pm [e.s, e.id]).isSome) = false := not_flip h40
      refine S.gskip (t := 42) rfl rfl (no_bool (by rw [h40]; decide)) rfl rfl ?_
      refine S.gskip (t := 42) rfl rfl (no_bool (by rw [h40]; decide)) rfl rfl ?_
      refine S.gskip (t := 42) rfl rfl (no_bool (by rw [h40]; decide)) rfl rfl ?_
      refine S.gskip (t := 42) rfl rfl (no_bool (by rw [h40]; decide)) rfl rfl ?_
      refine S.gskip (t := 42) rfl rfl (no_bool (by rw [h40]; decide)) rfl rfl ?_
      refine S.gskip (t := 42) rfl rfl (no_bool (by rw [h40]; decide)) rfl rfl ?_
      refine S.gskip (t := 42) rfl rfl (no_bool (by rw [h40]; decide)) rfl rfl ?_
      refine S.gskip (t := 42) rfl rfl (no_bool (by rw [h40]; decide)) rfl rfl ?_
      refine S.gskip (t := 42) rfl rfl (no_bool (by rw [h40]; decide)) rfl rfl ?_
      refine S.gskip (t := 42) rfl rfl (no_bool (by rw [h40]; decide)) rfl rfl ?_
      refine S.endO ?_
      refine O.gskip (t := 42) rfl rfl (no_bool (by rw [h40]; decide)) rfl rfl ?_
      refine O.gskip (t := 42) rfl rfl (no_bool (by rw [h40]; decide)) rfl rfl ?_
      refine O.p (Pu.pickT rfl h40 rfl) rfl ?_
      refine O.nil ?_
      refine J.condT rfl rfl ?_
      refine J.seq ?_
      refine J.region ?_
      refine O.p (Pu.assign rfl) rfl ?_
      refine O.nil ?_
      exact J.ret (Fin.ret (rs := [.tmp 4]) rfl [_] ⟨rfl, trivial⟩ [2, 3, 4, 5] (by decide) [var gb [V, .map (some b1), .map (some b2)] 105, row V 111 8 (out.map Ft.cells), mp b1 encR 2 (pm.map fun p => (p.1, Value.int .i64 p.2)), mp b2 encI 1 ruleM] rfl ⟨V, pm, out, (by rw [(Ld.step_unknown (kd := 12) (by omega) (by decide) (by decide) hfit ‹_›)]; rfl), (by rw [(Ld.step_unknown (kd := 12) (by omega) (by decide) (by decide) hfit ‹_›)]; rfl), hfit, rfl⟩)
     ·
      have h42 : ((getM pm [e.s, e.id]).isSome) = true := not_flip h40
      refine S.gq (t := 42) rfl rfl h40 rfl (Pu.qt (Pu.fieldAddr (off' := 0) Tryz.runUnderlying125 rfl Tryz.sizeOf121 rfl rfl rfl)) rfl ?_
      refine S.gq (t := 42) rfl rfl h40 rfl (Qt.ld rfl (Cel.var 0 rfl) (o := 0) (off := 0) rfl (Cut.one Tryz.isAgg121 rfl)) rfl ?_
      refine S.gq (t := 42) rfl rfl h40 rfl (Pu.qt (Pu.move rfl)) rfl ?_
      refine S.gq (t := 42) rfl rfl h40 rfl (Pu.qt (Pu.nilCheck rfl)) rfl ?_
      refine S.gq (t := 42) rfl rfl h40 rfl (Pu.qt (Pu.fieldAddr (off' := 0) Tryz.runUnderlying105 rfl Tryz.sizeOf66 rfl rfl rfl)) rfl ?_
      refine S.gq (t := 42) rfl rfl h40 rfl (Qt.ld rfl (Cel.var 2 rfl) (o := 0) (off := 0) rfl (Cut.one Tryz.isAgg66 rfl)) rfl ?_
      refine S.gq (t := 42) rfl rfl h40 rfl (Pu.qt (Pu.move rfl)) rfl ?_
      obtain ⟨e43, he43⟩ : ∃ x_, out[((getM pm [e.s, e.id]).getD 0).toNat]? = some x_ := ⟨_, List.getElem?_eq_getElem (by first | omega | exact (Ld.fits_at hfit ‹_›).1 | exact (Ld.fits_at hfit ‹_›).2.1 | exact (Ld.fits_at hfit ‹_›).2.2.1 | (simp only [List.length_append, List.length_cons, List.length_nil, List.length_set]; omega))⟩
      refine S.gq (t := 42) rfl rfl h40 rfl (Qt.idxM Tryz.runUnderlying66 Tryz.sizeOf111 rfl (Src.row 3 rfl) rfl (by first | omega | exact (Ld.fits_at hfit ‹_›).1 | exact (Ld.fits_at hfit ‹_›).2.1 | exact (Ld.fits_at hfit ‹_›).2.2.1 | (simp only [List.length_append, List.length_cons, List.length_nil, List.length_set]; omega)) (by first | omega | exact (Ld.fits_at hfit ‹_›).1 | exact (Ld.fits_at hfit ‹_›).2.1 | exact (Ld.fits_at hfit ‹_›).2.2.1 | (simp only [List.length_append, List.length_cons, List.length_nil, List.length_set]; omega))) rfl ?_
      refine S.gq (t := 42) rfl rfl h40 rfl (Qt.ld rfl (Cel.eltM (Src.row 3 rfl) he43) (o := (voff V + (((getM pm [e.s, e.id]).getD 0).toNat) * 8)) (off := 0) (by omega) (Cut.agg [.int .i64 e43.s, .int .i64 e43.id, .int .i64 e43.state, .int .i64 e43.level, .int .i64 e43.code, .int .i64 e43.came, .int .i64 e43.began, .int .i64 e43.ended] Tryz.isAgg111 Tryz.sizeOf111 rfl rfl)) rfl ?_
      refine S.gq (t := 42) rfl rfl h40 rfl (Qt.ld rfl (Cel.var 1 rfl) (o := 0) (off := 0) rfl (Cut.agg [.int .i64 e.kind, .int .i64 e.tick, .int .i64 e.s, .int .i64 e.id, .int .i64 e.code, .int .i64 e.a, .int .i64 e.b] Tryz.isAgg47 Tryz.sizeOf47 rfl rfl)) rfl ?_
      refine S.endO ?_
      refine O.gl (t := 42) rfl rfl h40 rfl (Lo.callV (vs := [.agg #[.int .i64 e43.s, .int .i64 e43.id, .int .i64 e43.state, .int .i64 e43.level, .int .i64 e43.code, .int .i64 e43.came, .int .i64 e43.began, .int .i64 e43.ended], .agg #[.int .i64 e.kind, .int .i64 e.tick, .int .i64 e.s, .int .i64 e.id, .int .i64 e.code, .int .i64 e.a, .int .i64 e.b]]) (caps := []) (by exact Tryz.call85) rfl rfl (ld_may7 e43 e) [] [0, 1, 2, 3, 4, 5] (by decide) rfl [var g39 [.func (.func 85) #[] #[], .func (.func 87) #[] #[]] 125, var g1 [.int .i64 e.kind, .int .i64 e.tick, .int .i64 e.s, .int .i64 e.id, .int .i64 e.code, .int .i64 e.a, .int .i64 e.b] 47, var gb [V, .map (some b1), .map (some b2)] 105, row V 111 8 (out.map Ft.cells), mp b1 encR 2 (pm.map fun p => (p.1, Value.int .i64 p.2)), mp b2 encI 1 ruleM] rfl RoOk.nil) rfl ?_
      rintro _ _ ⟨_, ⟨rfl, rfl⟩, rfl⟩
      refine O.gq (t := 42) rfl rfl h40 rfl (Pu.qt (Pu.not rfl)) rfl ?_
      refine O.p (Pu.pickF rfl h40 rfl) rfl ?_
      refine O.nil ?_
      refine J.cond rfl (fun h45 => ?_) (fun h45 => ?_)
      ·
       have h46 : (Ld.may 12 e43 e) = false := not_flip h45
       refine J.seq ?_
       refine J.region ?_
       refine O.p (Pu.assign rfl) rfl ?_
       refine O.nil ?_
       exact J.ret (Fin.ret (rs := [.tmp 4]) rfl [_] ⟨rfl, trivial⟩ [2, 3, 4, 5] (by decide) [var gb [V, .map (some b1), .map (some b2)] 105, row V 111 8 (out.map Ft.cells), mp b1 encR 2 (pm.map fun p => (p.1, Value.int .i64 p.2)), mp b2 encI 1 ruleM] rfl ⟨V, pm, out, (by rw [(Ld.step_not (kd := 12) (by omega) (by decide) (by decide) hfit ‹_› ‹_› h46)]; rfl), (by rw [(Ld.step_not (kd := 12) (by omega) (by decide) (by decide) hfit ‹_› ‹_› h46)]; rfl), hfit, rfl⟩)
      ·
       have h47 : (Ld.may 12 e43 e) = true := not_flip h45
       refine J.skip ?_
       refine J.seq ?_
       refine J.drawTail 9 Tryz.mixed (by kernel_rfl) ?_
       refine S.p (Pu.fieldAddr (off' := 1) Tryz.runUnderlying125 rfl Tryz.sizeOf123 rfl rfl rfl) rfl ?_
       refine S.q (Qt.ld rfl (Cel.var 0 rfl) (o := 0) (off := 1) rfl (Cut.one Tryz.isAgg123 rfl)) rfl ?_
       refine S.p (Pu.move rfl) rfl ?_
       refine S.p (Pu.nilCheck rfl) rfl ?_
       refine S.p (Pu.fieldAddr (off' := 0) Tryz.runUnderlying105 rfl Tryz.sizeOf66 rfl rfl rfl) rfl ?_
       refine S.q (Qt.ld rfl (Cel.var 2 rfl) (o := 0) (off := 0) rfl (Cut.one Tryz.isAgg66 rfl)) rfl ?_
       refine S.p (Pu.move rfl) rfl ?_
       refine S.q (Qt.idxM Tryz.runUnderlying66 Tryz.sizeOf111 rfl (Src.row 3 rfl) rfl (by first | omega | exact (Ld.fits_at hfit ‹_›).1 | exact (Ld.fits_at hfit ‹_›).2.1 | exact (Ld.fits_at hfit ‹_›).2.2.1 | (simp only [List.length_append, List.length_cons, List.length_nil, List.length_set]; omega)) (by first | omega | exact (Ld.fits_at hfit ‹_›).1 | exact (Ld.fits_at hfit ‹_›).2.1 | exact (Ld.fits_at hfit ‹_›).2.2.1 | (simp only [List.length_append, List.length_cons, List.length_nil, List.length_set]; omega))) rfl ?_
       refine S.q (Qt.ld rfl (Cel.var 1 rfl) (o := 0) (off := 0) rfl (Cut.agg [.int .i64 e.kind, .int .i64 e.tick, .int .i64 e.s, .int .i64 e.id, .int .i64 e.code, .int .i64 e.a, .int .i64 e.b] Tryz.isAgg47 Tryz.sizeOf47 rfl rfl)) rfl ?_
       refine S.endO ?_
       refine O.l (Lo.callV (vs := [.pointer (some ⟨(vblk V), voff V + ((getM pm [e.s, e.id]).getD 0).toNat * 8, none⟩), .agg #[.int .i64 e.kind, .int .i64 e.tick, .int .i64 e.s, .int .i64 e.id, .int .i64 e.code, .int .i64 e.a, .int .i64 e.b]]) (caps := []) (by exact Tryz.call87) rfl rfl (ld_does8 ((getM pm [e.s, e.id]).getD 0) e43 e V out he43) [3] [0, 1, 2, 4, 5] (by decide) rfl [var g39 [.func (.func 85) #[] #[], .func (.func 87) #[] #[]] 125, var g1 [.int .i64 e.kind, .int .i64 e.tick, .int .i64 e.s, .int .i64 e.id, .int .i64 e.code, .int .i64 e.a, .int .i64 e.b] 47, var gb [V, .map (some b1), .map (some b2)] 105, mp b1 encR 2 (pm.map fun p => (p.1, Value.int .i64 p.2)), mp b2 encI 1 ruleM] rfl RoOk.nil) rfl ?_
       rintro _ _ ⟨_, ⟨rfl, rfl⟩, rfl⟩
       refine O.nil ?_
       refine J.seq ?_
       refine J.region ?_
       refine O.p (Pu.assign rfl) rfl ?_
       refine O.nil ?_
       exact J.ret (Fin.ret (rs := [.tmp 4]) rfl [_] ⟨rfl, trivial⟩ [3, 0, 4, 5] (by decide) [var gb [V, .map (some b1), .map (some b2)] 105, row V 111 8 ((out.set ((getM pm [e.s, e.id]).getD 0).toNat (Ld.does 12 e43 e)).map Ft.cells), mp b1 encR 2 (pm.map fun p => (p.1, Value.int .i64 p.2)), mp b2 encI 1 ruleM] rfl ⟨V, pm, out.set ((getM pm [e.s, e.id]).getD 0).toNat (Ld.does 12 e43 e), (by rw [(Ld.step_does (kd := 12) (by omega) (by decide) (by decide) hfit ‹_› ‹_› (by first | assumption | exact (show Ld.may 12 _ e = true from (by assumption : Ld.may 5 _ e = true))))]; rfl), (by rw [(Ld.step_does (kd := 12) (by omega) (by decide) (by decide) hfit ‹_› ‹_› (by first | assumption | exact (show Ld.may 12 _ e = true from (by assumption : Ld.may 5 _ e = true))))]; rfl), Ld.fits_set hfit ‹_› Ld.does_same.1 Ld.does_same.2, rfl⟩)
    ·
     have p49 := of_decide_eq_false h37
     refine by_bool (decide (e.kind = 5)) (fun h50 => ?_) (fun h50 => ?_)
     ·
      have p51 := of_decide_eq_true h50
      refine Mx.q rfl (Qt.lookC 2 (key := [e.kind]) (u := .agg #[.func (.func 78) #[] #[], .func (.func 79) #[] #[]]) (q := true) Tryz.underlying102 (KT.int Tryz.underlying3) Tryz.zeroValue125 rfl rfl rfl rfl rfl (by simp only [ruleM, getM, List.cons.injEq, and_true]; (repeat' split) <;> first | (exfalso; omega) | exact ⟨rfl, rfl⟩)) rfl ?_
      refine Mx.p rfl (Pu.move rfl) rfl ?_
      refine Mx.p rfl (Pu.extract rfl rfl) rfl ?_
      refine Mx.p rfl (Pu.extract rfl rfl) rfl ?_
      refine Mx.l rfl (Lo.alloc [Value.nilFunc, Value.nilFunc] (by exact Tryz.zeroValue125) rfl) rfl ?_
      rintro _ _ ⟨g52, rfl, rfl⟩
      refine MxK.go [1, 2, 5] [0, 1, 2] [var g1 [.int .i64 e.kind, .int .i64 e.tick, .int .i64 e.s, .int .i64 e.id, .int .i64 e.code, .int .i64 e.a, .int .i64 e.b] 47, var gb [V, .map (some b1), .map (some b2)] 105, mp b2 encI 1 ruleM] (by decide) rfl (by decide) rfl ?_
      refine Mx.l0 rfl (Lo.store 0 (vs := [.func (.func 78) #[] #[], .func (.func 79) #[] #[]]) [.func (.func 78) #[] #[], .func (.func 79) #[] #[]] rfl rfl rfl (by exact Tryz.sizeOf125) rfl rfl rfl rfl rfl) ?_
      rintro _ _ rfl
      refine MxK.go [1, 2, 5] [0, 1, 2] [var g1 [.int .i64 e.kind, .int .i64 e.tick, .int .i64 e.s, .int .i64 e.id, .int .i64 e.code, .int .i64 e.a, .int .i64 e.b] 47, var gb [V, .map (some b1), .map (some b2)] 105, mp b2 encI 1 ruleM] (by decide) rfl (by decide) rfl ?_
      refine Mx.p rfl (Pu.assign rfl) rfl ?_
      refine Mx.nil ?_
      refine J.seq ?_
      refine J.seq ?_
      refine J.region ?_
      refine O.p (Pu.move rfl) rfl ?_
      refine O.p (Pu.not rfl) rfl ?_
      refine O.nil ?_
      refine J.condF rfl rfl ?_
      refine J.skip ?_
      refine J.seq ?_
      refine J.drawStill Tryz.mixed (by kernel_rfl) ?_
      refine S.p (Pu.move rfl) rfl ?_
      refine S.p (Pu.nilCheck rfl) rfl ?_
      refine S.p (Pu.fieldAddr (off' := 1) Tryz.runUnderlying105 rfl Tryz.sizeOf101 rfl rfl rfl) rfl ?_
      refine S.q (Qt.ld rfl (Cel.var 2 rfl) (o := 0) (off := 1) rfl (Cut.one Tryz.isAgg101 rfl)) rfl ?_
      refine S.p (Pu.fieldAddr (off' := 2) Tryz.runUnderlying47 rfl Tryz.sizeOf3 rfl rfl rfl) rfl ?_
      refine S.q (Qt.ld rfl (Cel.var 1 rfl) (o := 0) (off := 2) rfl (Cut.one Tryz.isAgg3 rfl)) rfl ?_
      refine S.p (Pu.fieldAddr (off' := 3) Tryz.runUnderlying47 rfl Tryz.sizeOf3 rfl rfl rfl) rfl ?_
      refine S.q (Qt.ld rfl (Cel.var 1 rfl) (o := 0) (off := 3) rfl (Cut.one Tryz.isAgg3 rfl)) rfl ?_
      refine S.p (Pu.build [(0, .int .i64 e.s), (1, .int .i64 e.id)] [.int .i64 e.s, .int .i64 e.id] #[(0, 1), (1, 1)] Tryz.runUnderlying130 Tryz.zeroValue130 (places130 Tryz.underlying130) rfl (by kernel_rfl)) rfl ?_
      refine S.q (Qt.lookI 4 (key := [e.s, e.id]) Tryz.underlying101 (KT.str Tryz.underlying130 Tryz.stoodInHeld130 (fint130 Tryz.underlying130)) Tryz.zeroValue3 rfl rfl rfl rfl rfl) rfl ?_
      refine S.p (Pu.move rfl) rfl ?_
      refine S.p (Pu.extract rfl rfl) rfl ?_
      refine S.p (Pu.extract rfl rfl) rfl ?_
      refine S.p (Pu.assign rfl) rfl ?_
      refine S.p (Pu.assign rfl) rfl ?_
      refine S.endJ ?_
      refine J.seq ?_
      refine J.seq ?_
      refine J.drawTail 13 Tryz.mixed (by kernel_rfl) ?_
      refine S.p (Pu.move rfl) rfl ?_
      refine S.p (Pu.not rfl) rfl ?_
      refine S.p (Pu.move rfl) rfl ?_
      refine by_bool (!((getM pm [e.s, e.id]).isSome)) (fun h53 => ?_) (fun h53 => ?_)
      ·
       have h54 : ((getM pm [e.s, e.id]).isSome) = false := not_flip h53
       refine S.gskip (t := 42) rfl rfl (no_bool (by rw [h53]; decide)) rfl rfl ?_
       refine S.gskip (t := 42) rfl rfl (no_bool (by rw [h53]; decide)) rfl rfl ?_
       refine S.gskip (t := 42) rfl rfl (no_bool (by rw [h53]; decide)) rfl rfl ?_
       refine S.gskip (t := 42) rfl rfl (no_bool (by rw [h53]; decide)) rfl rfl ?_
       refine S.gskip (t := 42) rfl rfl (no_bool (by rw [h53]; decide)) rfl rfl ?_
       refine S.gskip (t := 42) rfl rfl (no_bool (by rw [h53]; decide)) rfl rfl ?_
       refine S.gskip (t := 42) rfl rfl (no_bool (by rw [h53]; decide)) rfl rfl ?_
       refine S.gskip (t := 42) rfl rfl (no_bool (by rw [h53]; decide)) rfl rfl ?_
       refine S.gskip (t := 42) rfl rfl (no_bool (by rw [h53]; decide)) rfl rfl ?_
       refine S.gskip (t := 42) rfl rfl (no_bool (by rw [h53]; decide)) rfl rfl ?_
       refine S.endO ?_
       refine O.gskip (t := 42) rfl rfl (no_bool (by rw [h53]; decide)) rfl rfl ?_
       refine O.gskip (t := 42) rfl rfl (no_bool (by rw [h53]; decide)) rfl rfl ?_
       refine O.p (Pu.pickT rfl h53 rfl) rfl ?_
       refine O.nil ?_
       refine J.condT rfl rfl ?_
       refine J.seq ?_
       refine J.region ?_
       refine O.p (Pu.assign rfl) rfl ?_
       refine O.nil ?_
       exact J.ret (Fin.ret (rs := [.tmp 4]) rfl [_] ⟨rfl, trivial⟩ [2, 3, 4, 5] (by decide) [var gb [V, .map (some b1), .map (some b2)] 105, row V 111 8 (out.map Ft.cells), mp b1 encR 2 (pm.map fun p => (p.1, Value.int .i64 p.2)), mp b2 encI 1 ruleM] rfl ⟨V, pm, out, (by rw [(Ld.step_unknown (kd := 5) (by omega) (by decide) (by decide) hfit ‹_›)]; rfl), (by rw [(Ld.step_unknown (kd := 5) (by omega) (by decide) (by decide) hfit ‹_›)]; rfl), hfit, rfl⟩)
      ·
       have h55 : ((getM pm [e.s, e.id]).isSome) = true := not_flip h53
       refine S.gq (t := 42) rfl rfl h53 rfl (Pu.qt (Pu.fieldAddr (off' := 0) Tryz.runUnderlying125 rfl Tryz.sizeOf121 rfl rfl rfl)) rfl ?_
       refine S.gq (t := 42) rfl rfl h53 rfl (Qt.ld rfl (Cel.var 0 rfl) (o := 0) (off := 0) rfl (Cut.one Tryz.isAgg121 rfl)) rfl ?_
       refine S.gq (t := 42) rfl rfl h53 rfl (Pu.qt (Pu.move rfl)) rfl ?_
       refine S.gq (t := 42) rfl rfl h53 rfl (Pu.qt (Pu.nilCheck rfl)) rfl ?_
       refine S.gq (t := 42) rfl rfl h53 rfl (Pu.qt (Pu.fieldAddr (off' := 0) Tryz.runUnderlying105 rfl Tryz.sizeOf66 rfl rfl rfl)) rfl ?_
       refine S.gq (t := 42) rfl rfl h53 rfl (Qt.ld rfl (Cel.var 2 rfl) (o := 0) (off := 0) rfl (Cut.one Tryz.isAgg66 rfl)) rfl ?_
       refine S.gq (t := 42) rfl rfl h53 rfl (Pu.qt (Pu.move rfl)) rfl ?_
       obtain ⟨e56, he56⟩ : ∃ x_, out[((getM pm [e.s, e.id]).getD 0).toNat]? = some x_ := ⟨_, List.getElem?_eq_getElem (by first | omega | exact (Ld.fits_at hfit ‹_›).1 | exact (Ld.fits_at hfit ‹_›).2.1 | exact (Ld.fits_at hfit ‹_›).2.2.1 | (simp only [List.length_append, List.length_cons, List.length_nil, List.length_set]; omega))⟩
       refine S.gq (t := 42) rfl rfl h53 rfl (Qt.idxM Tryz.runUnderlying66 Tryz.sizeOf111 rfl (Src.row 3 rfl) rfl (by first | omega | exact (Ld.fits_at hfit ‹_›).1 | exact (Ld.fits_at hfit ‹_›).2.1 | exact (Ld.fits_at hfit ‹_›).2.2.1 | (simp only [List.length_append, List.length_cons, List.length_nil, List.length_set]; omega)) (by first | omega | exact (Ld.fits_at hfit ‹_›).1 | exact (Ld.fits_at hfit ‹_›).2.1 | exact (Ld.fits_at hfit ‹_›).2.2.1 | (simp only [List.length_append, List.length_cons, List.length_nil, List.length_set]; omega))) rfl ?_
       refine S.gq (t := 42) rfl rfl h53 rfl (Qt.ld rfl (Cel.eltM (Src.row 3 rfl) he56) (o := (voff V + (((getM pm [e.s, e.id]).getD 0).toNat) * 8)) (off := 0) (by omega) (Cut.agg [.int .i64 e56.s, .int .i64 e56.id, .int .i64 e56.state, .int .i64 e56.level, .int .i64 e56.code, .int .i64 e56.came, .int .i64 e56.began, .int .i64 e56.ended] Tryz.isAgg111 Tryz.sizeOf111 rfl rfl)) rfl ?_
       refine S.gq (t := 42) rfl rfl h53 rfl (Qt.ld rfl (Cel.var 1 rfl) (o := 0) (off := 0) rfl (Cut.agg [.int .i64 e.kind, .int .i64 e.tick, .int .i64 e.s, .int .i64 e.id, .int .i64 e.code, .int .i64 e.a, .int .i64 e.b] Tryz.isAgg47 Tryz.sizeOf47 rfl rfl)) rfl ?_
       refine S.endO ?_
       refine O.gl (t := 42) rfl rfl h53 rfl (Lo.callV (vs := [.agg #[.int .i64 e56.s, .int .i64 e56.id, .int .i64 e56.state, .int .i64 e56.level, .int .i64 e56.code, .int .i64 e56.came, .int .i64 e56.began, .int .i64 e56.ended], .agg #[.int .i64 e.kind, .int .i64 e.tick, .int .i64 e.s, .int .i64 e.id, .int .i64 e.code, .int .i64 e.a, .int .i64 e.b]]) (caps := []) (by exact Tryz.call78) rfl rfl (ld_may1 e56 e) [] [0, 1, 2, 3, 4, 5] (by decide) rfl [var g52 [.func (.func 78) #[] #[], .func (.func 79) #[] #[]] 125, var g1 [.int .i64 e.kind, .int .i64 e.tick, .int .i64 e.s, .int .i64 e.id, .int .i64 e.code, .int .i64 e.a, .int .i64 e.b] 47, var gb [V, .map (some b1), .map (some b2)] 105, row V 111 8 (out.map Ft.cells), mp b1 encR 2 (pm.map fun p => (p.1, Value.int .i64 p.2)), mp b2 encI 1 ruleM] rfl RoOk.nil) rfl ?_
       rintro _ _ ⟨_, ⟨rfl, rfl⟩, rfl⟩
       refine O.gq (t := 42) rfl rfl h53 rfl (Pu.qt (Pu.not rfl)) rfl ?_
       refine O.p (Pu.pickF rfl h53 rfl) rfl ?_
       refine O.nil ?_
       refine J.cond rfl (fun h58 => ?_) (fun h58 => ?_)
       ·
        have h59 : (Ld.may 5 e56 e) = false := not_flip h58
        refine J.seq ?_
        refine J.region ?_
        refine O.p (Pu.assign rfl) rfl ?_
        refine O.nil ?_
        exact J.ret (Fin.ret (rs := [.tmp 4]) rfl [_] ⟨rfl, trivial⟩ [2, 3, 4, 5] (by decide) [var gb [V, .map (some b1), .map (some b2)] 105, row V 111 8 (out.map Ft.cells), mp b1 encR 2 (pm.map fun p => (p.1, Value.int .i64 p.2)), mp b2 encI 1 ruleM] rfl ⟨V, pm, out, (by rw [(Ld.step_not (kd := 5) (by omega) (by decide) (by decide) hfit ‹_› ‹_› h59)]; rfl), (by rw [(Ld.step_not (kd := 5) (by omega) (by decide) (by decide) hfit ‹_› ‹_› h59)]; rfl), hfit, rfl⟩)
       ·
        have h60 : (Ld.may 5 e56 e) = true := not_flip h58
        refine J.skip ?_
        refine J.seq ?_
        refine J.drawTail 9 Tryz.mixed (by kernel_rfl) ?_
        refine S.p (Pu.fieldAddr (off' := 1) Tryz.runUnderlying125 rfl Tryz.sizeOf123 rfl rfl rfl) rfl ?_
        refine S.q (Qt.ld rfl (Cel.var 0 rfl) (o := 0) (off := 1) rfl (Cut.one Tryz.isAgg123 rfl)) rfl ?_
        refine S.p (Pu.move rfl) rfl ?_
        refine S.p (Pu.nilCheck rfl) rfl ?_
        refine S.p (Pu.fieldAddr (off' := 0) Tryz.runUnderlying105 rfl Tryz.sizeOf66 rfl rfl rfl) rfl ?_
        refine S.q (Qt.ld rfl (Cel.var 2 rfl) (o := 0) (off := 0) rfl (Cut.one Tryz.isAgg66 rfl)) rfl ?_
        refine S.p (Pu.move rfl) rfl ?_
        refine S.q (Qt.idxM Tryz.runUnderlying66 Tryz.sizeOf111 rfl (Src.row 3 rfl) rfl (by first | omega | exact (Ld.fits_at hfit ‹_›).1 | exact (Ld.fits_at hfit ‹_›).2.1 | exact (Ld.fits_at hfit ‹_›).2.2.1 | (simp only [List.length_append, List.length_cons, List.length_nil, List.length_set]; omega)) (by first | omega | exact (Ld.fits_at hfit ‹_›).1 | exact (Ld.fits_at hfit ‹_›).2.1 | exact (Ld.fits_at hfit ‹_›).2.2.1 | (simp only [List.length_append, List.length_cons, List.length_nil, List.length_set]; omega))) rfl ?_
        refine S.q (Qt.ld rfl (Cel.var 1 rfl) (o := 0) (off := 0) rfl (Cut.agg [.int .i64 e.kind, .int .i64 e.tick, .int .i64 e.s, .int .i64 e.id, .int .i64 e.code, .int .i64 e.a, .int .i64 e.b] Tryz.isAgg47 Tryz.sizeOf47 rfl rfl)) rfl ?_
        refine S.endO ?_
        refine O.l (Lo.callV (vs := [.pointer (some ⟨(vblk V), voff V + ((getM pm [e.s, e.id]).getD 0).toNat * 8, none⟩), .agg #[.int .i64 e.kind, .int .i64 e.tick, .int .i64 e.s, .int .i64 e.id, .int .i64 e.code, .int .i64 e.a, .int .i64 e.b]]) (caps := []) (by exact Tryz.call79) rfl rfl (ld_does2 ((getM pm [e.s, e.id]).getD 0) e56 e V out he56) [3] [0, 1, 2, 4, 5] (by decide) rfl [var g52 [.func (.func 78) #[] #[], .func (.func 79) #[] #[]] 125, var g1 [.int .i64 e.kind, .int .i64 e.tick, .int .i64 e.s, .int .i64 e.id, .int .i64 e.code, .int .i64 e.a, .int .i64 e.b] 47, var gb [V, .map (some b1), .map (some b2)] 105, mp b1 encR 2 (pm.map fun p => (p.1, Value.int .i64 p.2)), mp b2 encI 1 ruleM] rfl RoOk.nil) rfl ?_
        rintro _ _ ⟨_, ⟨rfl, rfl⟩, rfl⟩
        refine O.nil ?_
        refine J.seq ?_
        refine J.region ?_
        refine O.p (Pu.assign rfl) rfl ?_
        refine O.nil ?_
        exact J.ret (Fin.ret (rs := [.tmp 4]) rfl [_] ⟨rfl, trivial⟩ [3, 0, 4, 5] (by decide) [var gb [V, .map (some b1), .map (some b2)] 105, row V 111 8 ((out.set ((getM pm [e.s, e.id]).getD 0).toNat (Ld.does 5 e56 e)).map Ft.cells), mp b1 encR 2 (pm.map fun p => (p.1, Value.int .i64 p.2)), mp b2 encI 1 ruleM] rfl ⟨V, pm, out.set ((getM pm [e.s, e.id]).getD 0).toNat (Ld.does 5 e56 e), (by rw [(Ld.step_does (kd := 5) (by omega) (by decide) (by decide) hfit ‹_› ‹_› (by first | assumption | exact (show Ld.may 5 _ e = true from (by assumption : Ld.may 5 _ e = true))))]; rfl), (by rw [(Ld.step_does (kd := 5) (by omega) (by decide) (by decide) hfit ‹_› ‹_› (by first | assumption | exact (show Ld.may 5 _ e = true from (by assumption : Ld.may 5 _ e = true))))]; rfl), Ld.fits_set hfit ‹_› Ld.does_same.1 Ld.does_same.2, rfl⟩)
     ·
      have p62 := of_decide_eq_false h50
      refine by_bool (decide (e.kind = 6)) (fun h63 => ?_) (fun h63 => ?_)
      ·
       have p64 := of_decide_eq_true h63
       refine Mx.q rfl (Qt.lookC 2 (key := [e.kind]) (u := .agg #[.func (.func 78) #[] #[], .func (.func 79) #[] #[]]) (q := true) Tryz.underlying102 (KT.int Tryz.underlying3) Tryz.zeroValue125 rfl rfl rfl rfl rfl (by simp only [ruleM, getM, List.cons.injEq, and_true]; (repeat' split) <;> first | (exfalso; omega) | exact ⟨rfl, rfl⟩)) rfl ?_
       refine Mx.p rfl (Pu.move rfl) rfl ?_
       refine Mx.p rfl (Pu.extract rfl rfl) rfl ?_
       refine Mx.p rfl (Pu.extract rfl rfl) rfl ?_
       refine Mx.l rfl (Lo.alloc [Value.nilFunc, Value.nilFunc] (by exact Tryz.zeroValue125) rfl) rfl ?_
       rintro _ _ ⟨g65, rfl, rfl⟩
       refine MxK.go [1, 2, 5] [0, 1, 2] [var g1 [.int .i64 e.kind, .int .i64 e.tick, .int .i64 e.s, .int .i64 e.id, .int .i64 e.code, .int .i64 e.a, .int .i64 e.b] 47, var gb [V, .map (some b1), .map (some b2)] 105, mp b2 encI 1 ruleM] (by decide) rfl (by decide) rfl ?_
       refine Mx.l0 rfl (Lo.store 0 (vs := [.func (.func 78) #[] #[], .func (.func 79) #[] #[]]) [.func (.func 78) #[] #[], .func (.func 79) #[] #[]] rfl rfl rfl (by exact Tryz.sizeOf125) rfl rfl rfl rfl rfl) ?_
       rintro _ _ rfl
       refine MxK.go [1, 2, 5] [0, 1, 2] [var g1 [.int .i64 e.kind, .int .i64 e.tick, .int .i64 e.s, .int .i64 e.id, .int .i64 e.code, .int .i64 e.a, .int .i64 e.b] 47, var gb [V, .map (some b1), .map (some b2)] 105, mp b2 encI 1 ruleM] (by decide) rfl (by decide) rfl ?_
       refine Mx.p rfl (Pu.assign rfl) rfl ?_
       refine Mx.nil ?_
       refine J.seq ?_
       refine J.seq ?_
       refine J.region ?_
       refine O.p (Pu.move rfl) rfl ?_
       refine O.p (Pu.not rfl) rfl ?_
       refine O.nil ?_
       refine J.condF rfl rfl ?_
       refine J.skip ?_
       refine J.seq ?_
       refine J.drawStill Tryz.mixed (by kernel_rfl) ?_
       refine S.p (Pu.move rfl) rfl ?_
       refine S.p (Pu.nilCheck rfl) rfl ?_
       refine S.p (Pu.fieldAddr (off' := 1) Tryz.runUnderlying105 rfl Tryz.sizeOf101 rfl rfl rfl) rfl ?_
       refine S.q (Qt.ld rfl (Cel.var 2 rfl) (o := 0) (off := 1) rfl (Cut.one Tryz.isAgg101 rfl)) rfl ?_
       refine S.p (Pu.fieldAddr (off' := 2) Tryz.runUnderlying47 rfl Tryz.sizeOf3 rfl rfl rfl) rfl ?_
       refine S.q (Qt.ld rfl (Cel.var 1 rfl) (o := 0) (off := 2) rfl (Cut.one Tryz.isAgg3 rfl)) rfl ?_
       refine S.p (Pu.fieldAddr (off' := 3) Tryz.runUnderlying47 rfl Tryz.sizeOf3 rfl rfl rfl) rfl ?_
       refine S.q (Qt.ld rfl (Cel.var 1 rfl) (o := 0) (off := 3) rfl (Cut.one Tryz.isAgg3 rfl)) rfl ?_
       refine S.p (Pu.build [(0, .int .i64 e.s), (1, .int .i64 e.id)] [.int .i64 e.s, .int .i64 e.id] #[(0, 1), (1, 1)] Tryz.runUnderlying130 Tryz.zeroValue130 (places130 Tryz.underlying130) rfl (by kernel_rfl)) rfl ?_
       refine S.q (Qt.lookI 4 (key := [e.s, e.id]) Tryz.underlying101 (KT.str Tryz.underlying130 Tryz.stoodInHeld130 (fint130 Tryz.underlying130)) Tryz.zeroValue3 rfl rfl rfl rfl rfl) rfl ?_
       refine S.p (Pu.move rfl) rfl ?_
       refine S.p (Pu.extract rfl rfl) rfl ?_
       refine S.p (Pu.extract rfl rfl) rfl ?_
       refine S.p (Pu.assign rfl) rfl ?_
       refine S.p (Pu.assign rfl) rfl ?_
       refine S.endJ ?_
       refine J.seq ?_
       refine J.seq ?_
       refine J.drawTail 13 Tryz.mixed (by kernel_rfl) ?_
       refine S.p (Pu.move rfl) rfl ?_
       refine S.p (Pu.not rfl) rfl ?_
       refine S.p (Pu.move rfl) rfl ?_
       refine by_bool (!((getM pm [e.s, e.id]).isSome)) (fun h66 => ?_) (fun h66 => ?_)
       ·
        have h67 : ((getM pm [e.s, e.id]).isSome) = false := not_flip h66
        refine S.gskip (t := 42) rfl rfl (no_bool (by rw [h66]; decide)) rfl rfl ?_
        refine S.gskip (t := 42) rfl rfl (no_bool (by rw [h66]; decide)) rfl rfl ?_
        refine S.gskip (t := 42) rfl rfl (no_bool (by rw [h66]; decide)) rfl rfl ?_
        refine S.gskip (t := 42) rfl rfl (no_bool (by rw [h66]; decide)) rfl rfl ?_
        refine S.gskip (t := 42) rfl rfl (no_bool (by rw [h66]; decide)) rfl rfl ?_
        refine S.gskip (t := 42) rfl rfl (no_bool (by rw [h66]; decide)) rfl rfl ?_
        refine S.gskip (t := 42) rfl rfl (no_bool (by rw [h66]; decide)) rfl rfl ?_
        refine S.gskip (t := 42) rfl rfl (no_bool (by rw [h66]; decide)) rfl rfl ?_
        refine S.gskip (t := 42) rfl rfl (no_bool (by rw [h66]; decide)) rfl rfl ?_
        refine S.gskip (t := 42) rfl rfl (no_bool (by rw [h66]; decide)) rfl rfl ?_
        refine S.endO ?_
        refine O.gskip (t := 42) rfl rfl (no_bool (by rw [h66]; decide)) rfl rfl ?_
        refine O.gskip (t := 42) rfl rfl (no_bool (by rw [h66]; decide)) rfl rfl ?_
        refine O.p (Pu.pickT rfl h66 rfl) rfl ?_
        refine O.nil ?_
        refine J.condT rfl rfl ?_
        refine J.seq ?_
        refine J.region ?_
        refine O.p (Pu.assign rfl) rfl ?_
        refine O.nil ?_
        exact J.ret (Fin.ret (rs := [.tmp 4]) rfl [_] ⟨rfl, trivial⟩ [2, 3, 4, 5] (by decide) [var gb [V, .map (some b1), .map (some b2)] 105, row V 111 8 (out.map Ft.cells), mp b1 encR 2 (pm.map fun p => (p.1, Value.int .i64 p.2)), mp b2 encI 1 ruleM] rfl ⟨V, pm, out, (by rw [(Ld.step_unknown (kd := 6) (by omega) (by decide) (by decide) hfit ‹_›)]; rfl), (by rw [(Ld.step_unknown (kd := 6) (by omega) (by decide) (by decide) hfit ‹_›)]; rfl), hfit, rfl⟩)
       ·
        have h68 : ((getM pm [e.s, e.id]).isSome) = true := not_flip h66
        refine S.gq (t := 42) rfl rfl h66 rfl (Pu.qt (Pu.fieldAddr (off' := 0) Tryz.runUnderlying125 rfl Tryz.sizeOf121 rfl rfl rfl)) rfl ?_
        refine S.gq (t := 42) rfl rfl h66 rfl (Qt.ld rfl (Cel.var 0 rfl) (o := 0) (off := 0) rfl (Cut.one Tryz.isAgg121 rfl)) rfl ?_
        refine S.gq (t := 42) rfl rfl h66 rfl (Pu.qt (Pu.move rfl)) rfl ?_
        refine S.gq (t := 42) rfl rfl h66 rfl (Pu.qt (Pu.nilCheck rfl)) rfl ?_
        refine S.gq (t := 42) rfl rfl h66 rfl (Pu.qt (Pu.fieldAddr (off' := 0) Tryz.runUnderlying105 rfl Tryz.sizeOf66 rfl rfl rfl)) rfl ?_
        refine S.gq (t := 42) rfl rfl h66 rfl (Qt.ld rfl (Cel.var 2 rfl) (o := 0) (off := 0) rfl (Cut.one Tryz.isAgg66 rfl)) rfl ?_
        refine S.gq (t := 42) rfl rfl h66 rfl (Pu.qt (Pu.move rfl)) rfl ?_
        obtain ⟨e69, he69⟩ : ∃ x_, out[((getM pm [e.s, e.id]).getD 0).toNat]? = some x_ := ⟨_, List.getElem?_eq_getElem (by first | omega | exact (Ld.fits_at hfit ‹_›).1 | exact (Ld.fits_at hfit ‹_›).2.1 | exact (Ld.fits_at hfit ‹_›).2.2.1 | (simp only [List.length_append, List.length_cons, List.length_nil, List.length_set]; omega))⟩
        refine S.gq (t := 42) rfl rfl h66 rfl (Qt.idxM Tryz.runUnderlying66 Tryz.sizeOf111 rfl (Src.row 3 rfl) rfl (by first | omega | exact (Ld.fits_at hfit ‹_›).1 | exact (Ld.fits_at hfit ‹_›).2.1 | exact (Ld.fits_at hfit ‹_›).2.2.1 | (simp only [List.length_append, List.length_cons, List.length_nil, List.length_set]; omega)) (by first | omega | exact (Ld.fits_at hfit ‹_›).1 | exact (Ld.fits_at hfit ‹_›).2.1 | exact (Ld.fits_at hfit ‹_›).2.2.1 | (simp only [List.length_append, List.length_cons, List.length_nil, List.length_set]; omega))) rfl ?_
        refine S.gq (t := 42) rfl rfl h66 rfl (Qt.ld rfl (Cel.eltM (Src.row 3 rfl) he69) (o := (voff V + (((getM pm [e.s, e.id]).getD 0).toNat) * 8)) (off := 0) (by omega) (Cut.agg [.int .i64 e69.s, .int .i64 e69.id, .int .i64 e69.state, .int .i64 e69.level, .int .i64 e69.code, .int .i64 e69.came, .int .i64 e69.began, .int .i64 e69.ended] Tryz.isAgg111 Tryz.sizeOf111 rfl rfl)) rfl ?_
        refine S.gq (t := 42) rfl rfl h66 rfl (Qt.ld rfl (Cel.var 1 rfl) (o := 0) (off := 0) rfl (Cut.agg [.int .i64 e.kind, .int .i64 e.tick, .int .i64 e.s, .int .i64 e.id, .int .i64 e.code, .int .i64 e.a, .int .i64 e.b] Tryz.isAgg47 Tryz.sizeOf47 rfl rfl)) rfl ?_
        refine S.endO ?_
        refine O.gl (t := 42) rfl rfl h66 rfl (Lo.callV (vs := [.agg #[.int .i64 e69.s, .int .i64 e69.id, .int .i64 e69.state, .int .i64 e69.level, .int .i64 e69.code, .int .i64 e69.came, .int .i64 e69.began, .int .i64 e69.ended], .agg #[.int .i64 e.kind, .int .i64 e.tick, .int .i64 e.s, .int .i64 e.id, .int .i64 e.code, .int .i64 e.a, .int .i64 e.b]]) (caps := []) (by exact Tryz.call78) rfl rfl (ld_may1 e69 e) [] [0, 1, 2, 3, 4, 5] (by decide) rfl [var g65 [.func (.func 78) #[] #[], .func (.func 79) #[] #[]] 125, var g1 [.int .i64 e.kind, .int .i64 e.tick, .int .i64 e.s, .int .i64 e.id, .int .i64 e.code, .int .i64 e.a, .int .i64 e.b] 47, var gb [V, .map (some b1), .map (some b2)] 105, row V 111 8 (out.map Ft.cells), mp b1 encR 2 (pm.map fun p => (p.1, Value.int .i64 p.2)), mp b2 encI 1 ruleM] rfl RoOk.nil) rfl ?_
        rintro _ _ ⟨_, ⟨rfl, rfl⟩, rfl⟩
        refine O.gq (t := 42) rfl rfl h66 rfl (Pu.qt (Pu.not rfl)) rfl ?_
        refine O.p (Pu.pickF rfl h66 rfl) rfl ?_
        refine O.nil ?_
        refine J.cond rfl (fun h71 => ?_) (fun h71 => ?_)
        ·
         have h72 : (Ld.may 5 e69 e) = false := not_flip h71
         refine J.seq ?_
         refine J.region ?_
         refine O.p (Pu.assign rfl) rfl ?_
         refine O.nil ?_
         exact J.ret (Fin.ret (rs := [.tmp 4]) rfl [_] ⟨rfl, trivial⟩ [2, 3, 4, 5] (by decide) [var gb [V, .map (some b1), .map (some b2)] 105, row V 111 8 (out.map Ft.cells), mp b1 encR 2 (pm.map fun p => (p.1, Value.int .i64 p.2)), mp b2 encI 1 ruleM] rfl ⟨V, pm, out, (by rw [(Ld.step_not (kd := 6) (by omega) (by decide) (by decide) hfit ‹_› ‹_› h72)]; rfl), (by rw [(Ld.step_not (kd := 6) (by omega) (by decide) (by decide) hfit ‹_› ‹_› h72)]; rfl), hfit, rfl⟩)
        ·
         have h73 : (Ld.may 5 e69 e) = true := not_flip h71
         refine J.skip ?_
         refine J.seq ?_
         refine J.drawTail 9 Tryz.mixed (by kernel_rfl) ?_
         refine S.p (Pu.fieldAddr (off' := 1) Tryz.runUnderlying125 rfl Tryz.sizeOf123 rfl rfl rfl) rfl ?_
         refine S.q (Qt.ld rfl (Cel.var 0 rfl) (o := 0) (off := 1) rfl (Cut.one Tryz.isAgg123 rfl)) rfl ?_
         refine S.p (Pu.move rfl) rfl ?_
         refine S.p (Pu.nilCheck rfl) rfl ?_
         refine S.p (Pu.fieldAddr (off' := 0) Tryz.runUnderlying105 rfl Tryz.sizeOf66 rfl rfl rfl) rfl ?_
         refine S.q (Qt.ld rfl (Cel.var 2 rfl) (o := 0) (off := 0) rfl (Cut.one Tryz.isAgg66 rfl)) rfl ?_
         refine S.p (Pu.move rfl) rfl ?_
         refine S.q (Qt.idxM Tryz.runUnderlying66 Tryz.sizeOf111 rfl (Src.row 3 rfl) rfl (by first | omega | exact (Ld.fits_at hfit ‹_›).1 | exact (Ld.fits_at hfit ‹_›).2.1 | exact (Ld.fits_at hfit ‹_›).2.2.1 | (simp only [List.length_append, List.length_cons, List.length_nil, List.length_set]; omega)) (by first | omega | exact (Ld.fits_at hfit ‹_›).1 | exact (Ld.fits_at hfit ‹_›).2.1 | exact (Ld.fits_at hfit ‹_›).2.2.1 | (simp only [List.length_append, List.length_cons, List.length_nil, List.length_set]; omega))) rfl ?_
         refine S.q (Qt.ld rfl (Cel.var 1 rfl) (o := 0) (off := 0) rfl (Cut.agg [.int .i64 e.kind, .int .i64 e.tick, .int .i64 e.s, .int .i64 e.id, .int .i64 e.code, .int .i64 e.a, .int .i64 e.b] Tryz.isAgg47 Tryz.sizeOf47 rfl rfl)) rfl ?_
         refine S.endO ?_
         refine O.l (Lo.callV (vs := [.pointer (some ⟨(vblk V), voff V + ((getM pm [e.s, e.id]).getD 0).toNat * 8, none⟩), .agg #[.int .i64 e.kind, .int .i64 e.tick, .int .i64 e.s, .int .i64 e.id, .int .i64 e.code, .int .i64 e.a, .int .i64 e.b]]) (caps := []) (by exact Tryz.call79) rfl rfl (ld_does2 ((getM pm [e.s, e.id]).getD 0) e69 e V out he69) [3] [0, 1, 2, 4, 5] (by decide) rfl [var g65 [.func (.func 78) #[] #[], .func (.func 79) #[] #[]] 125, var g1 [.int .i64 e.kind, .int .i64 e.tick, .int .i64 e.s, .int .i64 e.id, .int .i64 e.code, .int .i64 e.a, .int .i64 e.b] 47, var gb [V, .map (some b1), .map (some b2)] 105, mp b1 encR 2 (pm.map fun p => (p.1, Value.int .i64 p.2)), mp b2 encI 1 ruleM] rfl RoOk.nil) rfl ?_
         rintro _ _ ⟨_, ⟨rfl, rfl⟩, rfl⟩
         refine O.nil ?_
         refine J.seq ?_
         refine J.region ?_
         refine O.p (Pu.assign rfl) rfl ?_
         refine O.nil ?_
         exact J.ret (Fin.ret (rs := [.tmp 4]) rfl [_] ⟨rfl, trivial⟩ [3, 0, 4, 5] (by decide) [var gb [V, .map (some b1), .map (some b2)] 105, row V 111 8 ((out.set ((getM pm [e.s, e.id]).getD 0).toNat (Ld.does 5 e69 e)).map Ft.cells), mp b1 encR 2 (pm.map fun p => (p.1, Value.int .i64 p.2)), mp b2 encI 1 ruleM] rfl ⟨V, pm, out.set ((getM pm [e.s, e.id]).getD 0).toNat (Ld.does 5 e69 e), (by rw [(Ld.step_does (kd := 6) (by omega) (by decide) (by decide) hfit ‹_› ‹_› (by first | assumption | exact (show Ld.may 6 _ e = true from (by assumption : Ld.may 5 _ e = true))))]; rfl), (by rw [(Ld.step_does (kd := 6) (by omega) (by decide) (by decide) hfit ‹_› ‹_› (by first | assumption | exact (show Ld.may 6 _ e = true from (by assumption : Ld.may 5 _ e = true))))]; rfl), Ld.fits_set hfit ‹_› Ld.does_same.1 Ld.does_same.2, rfl⟩)
      ·
       have p75 := of_decide_eq_false h63
       refine Mx.q rfl (Qt.lookC 2 (key := [e.kind]) (u := .agg #[Value.nilFunc, Value.nilFunc]) (q := false) Tryz.underlying102 (KT.int Tryz.underlying3) Tryz.zeroValue125 rfl rfl rfl rfl rfl (by simp only [ruleM, getM, List.cons.injEq, and_true]; (repeat' split) <;> first | (exfalso; omega) | exact ⟨rfl, rfl⟩)) rfl ?_
       refine Mx.p rfl (Pu.move rfl) rfl ?_
       refine Mx.p rfl (Pu.extract rfl rfl) rfl ?_
       refine Mx.p rfl (Pu.extract rfl rfl) rfl ?_
       refine Mx.l rfl (Lo.alloc [Value.nilFunc, Value.nilFunc] (by exact Tryz.zeroValue125) rfl) rfl ?_
       rintro _ _ ⟨g76, rfl, rfl⟩
       refine MxK.go [1, 2, 5] [0, 1, 2] [var g1 [.int .i64 e.kind, .int .i64 e.tick, .int .i64 e.s, .int .i64 e.id, .int .i64 e.code, .int .i64 e.a, .int .i64 e.b] 47, var gb [V, .map (some b1), .map (some b2)] 105, mp b2 encI 1 ruleM] (by decide) rfl (by decide) rfl ?_
       refine Mx.l0 rfl (Lo.store 0 (vs := [Value.nilFunc, Value.nilFunc]) [Value.nilFunc, Value.nilFunc] rfl rfl rfl (by exact Tryz.sizeOf125) rfl rfl rfl rfl rfl) ?_
       rintro _ _ rfl
       refine MxK.go [1, 2, 5] [0, 1, 2] [var g1 [.int .i64 e.kind, .int .i64 e.tick, .int .i64 e.s, .int .i64 e.id, .int .i64 e.code, .int .i64 e.a, .int .i64 e.b] 47, var gb [V, .map (some b1), .map (some b2)] 105, mp b2 encI 1 ruleM] (by decide) rfl (by decide) rfl ?_
       refine Mx.p rfl (Pu.assign rfl) rfl ?_
       refine Mx.nil ?_
       refine J.seq ?_
       refine J.seq ?_
       refine J.region ?_
       refine O.p (Pu.move rfl) rfl ?_
       refine O.p (Pu.not rfl) rfl ?_
       refine O.nil ?_
       refine J.condT rfl rfl ?_
       refine J.seq ?_
       refine J.region ?_
       refine O.p (Pu.assign rfl) rfl ?_
       refine O.nil ?_
       exact J.ret (Fin.ret (rs := [.tmp 4]) rfl [_] ⟨rfl, trivial⟩ [2, 3, 4, 5] (by decide) [var gb [V, .map (some b1), .map (some b2)] 105, row V 111 8 (out.map Ft.cells), mp b1 encR 2 (pm.map fun p => (p.1, Value.int .i64 p.2)), mp b2 encI 1 ruleM] rfl ⟨V, pm, out, (by rw [(Ld.step_other (out := out) (e := e) (by omega) (by simp [Ld.ruled, *]))]; rfl), (by rw [(Ld.step_other (out := out) (e := e) (by omega) (by simp [Ld.ruled, *]))]; rfl), hfit, rfl⟩)

end Go.Proofs.YtnkhmbbnabejhaaGreatDoor
