/-
  Walks, printed by a program of mine (lk.py): each function meets its contract.
-/
import Derived.KernelRfl
import Derived.Test.YtghhjhjpccipaaaNums
import Derived.Test.YtghhjhjpccipaaaMono0
namespace Go.Proofs.Ytghhjhjpccipaaa
open Go Go.LK

set_option maxRecDepth 100000 in
theorem mono_decision (e : Ev) : Tri Try.prog 51 #[.agg #[.int .i64 e.kind, .int .i64 e.tick, .int .i64 e.s, .int .i64 e.id, .int .i64 e.code, .int .i64 e.a, .int .i64 e.b]] [] [] (fun v L' => v = .bool (Mono.dec e) ∧ L' = []) := by
  refine Tri.enter (args := [.agg #[.int .i64 e.kind, .int .i64 e.tick, .int .i64 e.s, .int .i64 e.id, .int .i64 e.code, .int .i64 e.a, .int .i64 e.b]]) (body := _) 16 Try.func51 rfl Try.ntmps51 rfl ?_
  intro w0
  refine J.seq ?_
  refine J.region ?_
  refine O.l (Lo.box [.int .i64 e.kind, .int .i64 e.tick, .int .i64 e.s, .int .i64 e.id, .int .i64 e.code, .int .i64 e.a, .int .i64 e.b] rfl rfl) rfl ?_
  rintro _ _ ⟨g1, rfl, rfl⟩
  refine O.p (Pu.assign rfl) rfl ?_
  refine O.nil ?_
  refine J.seq ?_
  refine J.region ?_
  refine O.p (Pu.fieldAddr (off' := 0) Try.runUnderlying93 rfl Try.sizeOf3 rfl rfl rfl) rfl ?_
  refine O.q (Qt.ld rfl (Cel.var 0 rfl) (o := 0) (off := 0) rfl (Cut.one Try.isAgg3 rfl)) rfl ?_
  refine O.p (Pu.eql rfl rfl) rfl ?_
  refine O.p (Pu.move rfl) rfl ?_
  refine by_bool (decide (e.kind = 1)) (fun h2 => ?_) (fun h2 => ?_)
  ·
    have p3 := of_decide_eq_true h2
    refine O.gq (t := 6) rfl rfl h2 rfl (Pu.qt (Pu.fieldAddr (off' := 4) Try.runUnderlying93 rfl Try.sizeOf3 rfl rfl rfl)) rfl ?_
    refine O.gq (t := 6) rfl rfl h2 rfl (Qt.ld rfl (Cel.var 0 rfl) (o := 0) (off := 4) rfl (Cut.one Try.isAgg3 rfl)) rfl ?_
    refine O.gq (t := 6) rfl rfl h2 rfl (Pu.qt (Pu.eql rfl rfl)) rfl ?_
    refine O.gq (t := 6) rfl rfl h2 rfl (Pu.qt (Pu.move rfl)) rfl ?_
    refine by_bool (decide (e.code = 0)) (fun h4 => ?_) (fun h4 => ?_)
    ·
      have p5 := of_decide_eq_true h4
      refine O.gskip (t := 10) rfl rfl (no_bool (by rw [h4]; decide)) rfl rfl ?_
      refine O.gskip (t := 10) rfl rfl (no_bool (by rw [h4]; decide)) rfl rfl ?_
      refine O.gskip (t := 10) rfl rfl (no_bool (by rw [h4]; decide)) rfl rfl ?_
      refine O.gq (t := 6) rfl rfl h2 rfl (Pu.qt (Pu.pickT rfl h4 rfl)) rfl ?_
      refine O.p (Pu.pickT rfl h2 rfl) rfl ?_
      refine O.p (Pu.assign rfl) rfl ?_
      refine O.nil ?_
      exact J.ret (Fin.ret (rs := [.tmp 2]) rfl [_] ⟨rfl, trivial⟩ [] (by decide) [] rfl ⟨by simp [vOf, Mono.dec, *], rfl⟩)
    ·
      have p6 := of_decide_eq_false h4
      refine O.gq (t := 10) rfl rfl h4 rfl (Pu.qt (Pu.fieldAddr (off' := 4) Try.runUnderlying93 rfl Try.sizeOf3 rfl rfl rfl)) rfl ?_
      refine O.gq (t := 10) rfl rfl h4 rfl (Qt.ld rfl (Cel.var 0 rfl) (o := 0) (off := 4) rfl (Cut.one Try.isAgg3 rfl)) rfl ?_
      refine O.gq (t := 10) rfl rfl h4 rfl (Pu.qt (Pu.eql rfl rfl)) rfl ?_
      refine O.gq (t := 6) rfl rfl h2 rfl (Pu.qt (Pu.pickF rfl h4 rfl)) rfl ?_
      refine O.p (Pu.pickT rfl h2 rfl) rfl ?_
      refine O.p (Pu.assign rfl) rfl ?_
      refine O.nil ?_
      exact J.ret (Fin.ret (rs := [.tmp 2]) rfl [_] ⟨rfl, trivial⟩ [] (by decide) [] rfl ⟨by simp [vOf, Mono.dec, *], rfl⟩)
  ·
    have p7 := of_decide_eq_false h2
    refine O.gskip (t := 6) rfl rfl (no_bool (by rw [h2]; decide)) rfl rfl ?_
    refine O.gskip (t := 6) rfl rfl (no_bool (by rw [h2]; decide)) rfl rfl ?_
    refine O.gskip (t := 6) rfl rfl (no_bool (by rw [h2]; decide)) rfl rfl ?_
    refine O.gskip (t := 6) rfl rfl (no_bool (by rw [h2]; decide)) rfl rfl ?_
    refine O.gskip (t := 10) rfl rfl (no_undef _) rfl rfl ?_
    refine O.gskip (t := 10) rfl rfl (no_undef _) rfl rfl ?_
    refine O.gskip (t := 10) rfl rfl (no_undef _) rfl rfl ?_
    refine O.gskip (t := 6) rfl rfl (no_bool (by rw [h2]; decide)) rfl rfl ?_
    refine O.p (Pu.pickF rfl h2 rfl) rfl ?_
    refine O.p (Pu.assign rfl) rfl ?_
    refine O.nil ?_
    exact J.ret (Fin.ret (rs := [.tmp 2]) rfl [_] ⟨rfl, trivial⟩ [] (by decide) [] rfl ⟨by simp [vOf, Mono.dec, *], rfl⟩)

set_option maxRecDepth 100000 in
theorem mono_ends (e : Ev) : Tri Try.prog 55 #[.agg #[.int .i64 e.kind, .int .i64 e.tick, .int .i64 e.s, .int .i64 e.id, .int .i64 e.code, .int .i64 e.a, .int .i64 e.b]] [] [] (fun v L' => v = .bool (Mono.ends e) ∧ L' = []) := by
  refine Tri.enter (args := [.agg #[.int .i64 e.kind, .int .i64 e.tick, .int .i64 e.s, .int .i64 e.id, .int .i64 e.code, .int .i64 e.a, .int .i64 e.b]]) (body := _) 16 Try.func55 rfl Try.ntmps55 rfl ?_
  intro w0
  refine J.seq ?_
  refine J.region ?_
  refine O.l (Lo.box [.int .i64 e.kind, .int .i64 e.tick, .int .i64 e.s, .int .i64 e.id, .int .i64 e.code, .int .i64 e.a, .int .i64 e.b] rfl rfl) rfl ?_
  rintro _ _ ⟨g1, rfl, rfl⟩
  refine O.p (Pu.assign rfl) rfl ?_
  refine O.nil ?_
  refine J.seq ?_
  refine J.region ?_
  refine O.p (Pu.fieldAddr (off' := 0) Try.runUnderlying93 rfl Try.sizeOf3 rfl rfl rfl) rfl ?_
  refine O.q (Qt.ld rfl (Cel.var 0 rfl) (o := 0) (off := 0) rfl (Cut.one Try.isAgg3 rfl)) rfl ?_
  refine O.p (Pu.eql rfl rfl) rfl ?_
  refine O.p (Pu.move rfl) rfl ?_
  refine by_bool (decide (e.kind = 9)) (fun h2 => ?_) (fun h2 => ?_)
  ·
    have p3 := of_decide_eq_true h2
    refine O.gskip (t := 6) rfl rfl (no_bool (by rw [h2]; decide)) rfl rfl ?_
    refine O.gskip (t := 6) rfl rfl (no_bool (by rw [h2]; decide)) rfl rfl ?_
    refine O.gskip (t := 6) rfl rfl (no_bool (by rw [h2]; decide)) rfl rfl ?_
    refine O.p (Pu.pickT rfl h2 rfl) rfl ?_
    refine O.p (Pu.move rfl) rfl ?_
    refine O.gskip (t := 11) rfl rfl (no_bool (by decide)) rfl rfl ?_
    refine O.gskip (t := 11) rfl rfl (no_bool (by decide)) rfl rfl ?_
    refine O.gskip (t := 11) rfl rfl (no_bool (by decide)) rfl rfl ?_
    refine O.p (Pu.pickT rfl rfl rfl) rfl ?_
    refine O.p (Pu.assign rfl) rfl ?_
    refine O.nil ?_
    exact J.ret (Fin.ret (rs := [.tmp 2]) rfl [_] ⟨rfl, trivial⟩ [] (by decide) [] rfl ⟨by simp [vOf, Mono.ends, *], rfl⟩)
  ·
    have p4 := of_decide_eq_false h2
    refine O.gq (t := 6) rfl rfl h2 rfl (Pu.qt (Pu.fieldAddr (off' := 0) Try.runUnderlying93 rfl Try.sizeOf3 rfl rfl rfl)) rfl ?_
    refine O.gq (t := 6) rfl rfl h2 rfl (Qt.ld rfl (Cel.var 0 rfl) (o := 0) (off := 0) rfl (Cut.one Try.isAgg3 rfl)) rfl ?_
    refine O.gq (t := 6) rfl rfl h2 rfl (Pu.qt (Pu.eql rfl rfl)) rfl ?_
    refine O.p (Pu.pickF rfl h2 rfl) rfl ?_
    refine O.p (Pu.move rfl) rfl ?_
    refine by_bool (decide (e.kind = 11)) (fun h5 => ?_) (fun h5 => ?_)
    ·
      have p6 := of_decide_eq_true h5
      refine O.gskip (t := 11) rfl rfl (no_bool (by rw [h5]; decide)) rfl rfl ?_
      refine O.gskip (t := 11) rfl rfl (no_bool (by rw [h5]; decide)) rfl rfl ?_
      refine O.gskip (t := 11) rfl rfl (no_bool (by rw [h5]; decide)) rfl rfl ?_
      refine O.p (Pu.pickT rfl h5 rfl) rfl ?_
      refine O.p (Pu.assign rfl) rfl ?_
      refine O.nil ?_
      exact J.ret (Fin.ret (rs := [.tmp 2]) rfl [_] ⟨rfl, trivial⟩ [] (by decide) [] rfl ⟨by simp [vOf, Mono.ends, *], rfl⟩)
    ·
      have p7 := of_decide_eq_false h5
      refine O.gq (t := 11) rfl rfl h5 rfl (Pu.qt (Pu.fieldAddr (off' := 0) Try.runUnderlying93 rfl Try.sizeOf3 rfl rfl rfl)) rfl ?_
      refine O.gq (t := 11) rfl rfl h5 rfl (Qt.ld rfl (Cel.var 0 rfl) (o := 0) (off := 0) rfl (Cut.one Try.isAgg3 rfl)) rfl ?_
      refine O.gq (t := 11) rfl rfl h5 rfl (Pu.qt (Pu.eql rfl rfl)) rfl ?_
      refine O.p (Pu.pickF rfl h5 rfl) rfl ?_
      refine O.p (Pu.assign rfl) rfl ?_
      refine O.nil ?_
      exact J.ret (Fin.ret (rs := [.tmp 2]) rfl [_] ⟨rfl, trivial⟩ [] (by decide) [] rfl ⟨by simp [vOf, Mono.ends, *], rfl⟩)

set_option maxRecDepth 100000 in
theorem mono_fresh (k : Int) : Tri Try.prog 54 #[.int .i64 k] [] [] (fun v L' => v = .agg #[.int .i64 k, .int .i64 0, .int .i64 (-1), .int .i64 128] ∧ L' = []) := by
  refine Tri.enter (args := [.int .i64 k]) (body := _) 5 Try.func54 rfl Try.ntmps54 rfl ?_
  intro w0
  refine J.seq ?_
  refine J.region ?_
  refine O.l (Lo.alloc [.int .i64 0, .int .i64 0, .int .i64 0, .int .i64 0] (by exact Try.zeroValue25) rfl) rfl ?_
  rintro _ _ ⟨g1, rfl, rfl⟩
  refine O.nil ?_
  refine J.seq ?_
  refine J.region ?_
  refine O.p (Pu.move rfl) rfl ?_
  refine O.p (Pu.build [(0, .int .i64 k), (2, .int .i64 (-1)), (3, .int .i64 128)] [.int .i64 k, .int .i64 0, .int .i64 (-1), .int .i64 128] #[(0, 1), (1, 1), (2, 1), (3, 1)] Try.runUnderlying25 Try.zeroValue25 (places25 Try.underlying25) rfl (by kernel_rfl)) rfl ?_
  refine O.l0 (Lo.store 0 (vs := [.int .i64 k, .int .i64 0, .int .i64 (-1), .int .i64 128]) [.int .i64 k, .int .i64 0, .int .i64 (-1), .int .i64 128] rfl rfl rfl (by exact Try.sizeOf25) rfl rfl rfl rfl rfl) ?_
  rintro _ _ rfl
  refine O.nil ?_
  exact J.ret (Fin.ret (rs := [.cell 2 25]) rfl [_] ⟨⟨_, _, 0, 0, _, rfl, (Cel.var 0 rfl), rfl, (Cut.agg [.int .i64 k, .int .i64 0, .int .i64 (-1), .int .i64 128] Try.isAgg25 Try.sizeOf25 rfl rfl)⟩, trivial⟩ [] (by decide) [] rfl ⟨rfl, rfl⟩)

set_option maxRecDepth 100000 in
theorem mono_note (at_ : Int) (e : Ev) (gb go : Nat) (b : Bool) (V : Value) (out : List Run) (hb : b = true → out ≠ []) (hlen : out.length ≤ 100000) : Tri Try.prog 53 #[.int .i64 at_, .agg #[.int .i64 e.kind, .int .i64 e.tick, .int .i64 e.s, .int .i64 e.id, .int .i64 e.code, .int .i64 e.a, .int .i64 e.b], .pointer (some ⟨gb, 0, none⟩), .pointer (some ⟨go, 0, none⟩)] [] [var gb [.bool b] 4, var go [V] 36, row V 25 4 (out.map Run.cells)] (fun v L' => v = .tuple #[] ∧ ∃ V', L' = [var gb [.bool true] 4, var go [V'] 36, row V' 25 4 ((Mono.note out b at_ e).map Run.cells)]) := by
  have hb1 : b = true → 1 ≤ out.length := fun h => List.length_pos_iff.2 (hb h)
  refine Tri.enter (args := [.int .i64 at_, .agg #[.int .i64 e.kind, .int .i64 e.tick, .int .i64 e.s, .int .i64 e.id, .int .i64 e.code, .int .i64 e.a, .int .i64 e.b], .pointer (some ⟨gb, 0, none⟩), .pointer (some ⟨go, 0, none⟩)]) (body := _) 46 Try.func53 rfl Try.ntmps53 rfl ?_
  intro w0
  refine J.seq ?_
  refine J.region ?_
  refine O.l (Lo.box [.int .i64 e.kind, .int .i64 e.tick, .int .i64 e.s, .int .i64 e.id, .int .i64 e.code, .int .i64 e.a, .int .i64 e.b] rfl rfl) rfl ?_
  rintro _ _ ⟨g1, rfl, rfl⟩
  refine O.nil ?_
  refine J.seq ?_
  refine J.seq ?_
  refine J.region ?_
  refine O.q (Qt.ld rfl (Cel.var 1 rfl) (o := 0) (off := 0) rfl (Cut.one Try.isAgg4 rfl)) rfl ?_
  refine O.p (Pu.not rfl) rfl ?_
  refine O.nil ?_
  refine J.cond rfl (fun h2 => ?_) (fun h2 => ?_)
  ·
    have h3 : b = false := by simpa using h2
    subst h3
    refine J.seq ?_
    refine J.draw Try.mixed #[false, false, false, false, false, false] rfl ?_
    refine D.take (listed' := #[false, true, false, false, false, false]) 1 rfl (by kernel_rfl) (by kernel_rfl) (by kernel_rfl) rfl (Pu.move rfl) rfl ?_
    refine D.all 0 [2] (by kernel_rfl) ⟨?_, ?_, trivial⟩
    ·
      refine W.q (listed' := #[true, true, false, false, false, false]) rfl rfl (Qt.ld rfl (Cel.var 2 rfl) (o := 0) (off := 0) rfl (Cut.one Try.isAgg36 rfl)) rfl ?_
      refine D.all 2 [] (by kernel_rfl) ⟨?_, trivial⟩
      refine W.l (listed' := #[true, true, true, false, false, false]) rfl rfl (Lo.call [.int .i64 at_] (by exact Try.call54) rfl (mono_fresh at_) [] [0, 1, 2, 3] (by decide) rfl _ rfl RoOk.nil) rfl ?_
      rintro _ _ ⟨_, ⟨rfl, rfl⟩, rfl⟩
      refine D.all 3 [] (by kernel_rfl) ⟨?_, trivial⟩
      refine W.l (listed' := #[true, true, true, true, false, false]) rfl rfl (Lo.buildM (s := 4) Run.cells [(⟨at_, 0, -1, 128⟩ : Run)] [(0, .agg #[.int .i64 at_, .int .i64 0, .int .i64 (-1), .int .i64 128])] (by exact Try.runUnderlying36) (by exact Try.sizeOf25) (by exact Try.zeroValue25) rfl rfl rfl (by kernel_rfl) rfl rfl) rfl ?_
      rintro V5 _ rfl
      refine D.all 4 [] (by kernel_rfl) ⟨?_, trivial⟩
      refine W.l (listed' := #[true, true, true, true, true, false]) rfl rfl (Lo.appendM (s := 4) 4 (by exact Try.underlying36) (by exact (info25).1) (by exact (info25).2.1) (by exact (info25).2.2.1) (by exact (info25).2.2.2) rfl rfl rfl rfl rfl (Src.row 0 rfl) Run.one (by (try simp only [List.length_append, List.length_cons, List.length_nil, List.length_set]) <;> first | omega | (have hb2 := hb1 rfl; omega)) (by (try simp only [List.length_append, List.length_cons, List.length_nil, List.length_set]) <;> first | omega | (have hb2 := hb1 rfl; omega))) rfl ?_
      rintro V6 _ rfl
      refine D.all 5 [] (by kernel_rfl) ⟨?_, trivial⟩
      refine W.one (Src.row 4 rfl) (fun hV7 => ?_)
      refine W.l0 (listed' := #[true, true, true, true, true, true]) rfl rfl (Lo.store 3 (vs := [V6]) [V6] rfl rfl rfl (by exact Try.sizeOf36) (one_cells hV7) rfl (one_all hV7) rfl rfl) ?_
      rintro _ _ rfl
      refine D.done (by kernel_rfl) ?_
      refine J.region ?_
      refine O.l0 (Lo.store 2 (vs := [.bool true]) [.bool true] rfl rfl rfl (by exact Try.sizeOf4) rfl rfl rfl rfl rfl) ?_
      rintro _ _ rfl
      refine O.nil ?_
      refine J.seq ?_
      refine J.region ?_
      refine O.q (Qt.ld rfl (Cel.var 3 rfl) (o := 0) (off := 0) rfl (Cut.one Try.isAgg36 rfl)) rfl ?_
      refine O.q (Qt.ld rfl (Cel.var 3 rfl) (o := 0) (off := 0) rfl (Cut.one Try.isAgg36 rfl)) rfl ?_
      refine O.q (Qt.lenM Try.runUnderlying36 rfl (Src.row 4 rfl)) rfl ?_
      refine O.p (Pu.sub' rfl rfl (by first | omega | (simp only [List.length_append, List.length_cons, List.length_nil, List.length_set]; omega))) rfl ?_
      obtain ⟨e8, he8⟩ : ∃ e, (out ++ ([(⟨at_, 0, -1, 128⟩ : Run)]))[((out ++ ([(⟨at_, 0, -1, 128⟩ : Run)])).length - 1)]? = some e := ⟨_, List.getElem?_eq_getElem (by (try simp only [List.length_append, List.length_cons, List.length_nil, List.length_set]) <;> first | omega | (have hb2 := hb1 rfl; omega))⟩
      refine O.q (Qt.idxM Try.runUnderlying36 Try.sizeOf25 rfl (Src.row 4 rfl) rfl (by (try simp only [List.length_append, List.length_cons, List.length_nil, List.length_set]) <;> first | omega | (have hb2 := hb1 rfl; omega)) (by (try simp only [List.length_append, List.length_cons, List.length_nil, List.length_set]) <;> first | omega | (have hb2 := hb1 rfl; omega))) rfl ?_
      refine O.p (Pu.assign rfl) rfl ?_
      refine O.nil ?_
      refine J.seq ?_
      refine J.region ?_
      refine O.p (Pu.move rfl) rfl ?_
      refine O.p (Pu.move rfl) rfl ?_
      refine O.p (Pu.nilCheck rfl) rfl ?_
      refine O.p (Pu.fieldAddr (off' := voff V6 + (((out ++ ([(⟨at_, 0, -1, 128⟩ : Run)])).length : Int) - 1).toNat * 4 + 1) Try.runUnderlying25 rfl Try.sizeOf3 rfl rfl rfl) rfl ?_
      refine O.l0 (Lo.storeM 4 (j := ((out ++ ([(⟨at_, 0, -1, 128⟩ : Run)])).length - 1)) (off := 1) (vs := [.int .i64 at_]) (e := [.int .i64 e8.frm, .int .i64 e8.to, .int .i64 e8.pass, .int .i64 e8.stop]) ({ e8 with to := at_ }) rfl rfl rfl rfl (by omega) he8 rfl (by exact Try.sizeOf3) rfl rfl rfl rfl rfl) ?_
      rintro _ _ rfl
      have hs9 : ((out ++ ([(⟨at_, 0, -1, 128⟩ : Run)])).set ((out ++ ([(⟨at_, 0, -1, 128⟩ : Run)])).length - 1) ({ e8 with to := at_ }))[((out ++ ([(⟨at_, 0, -1, 128⟩ : Run)])).length - 1)]? = some ({ e8 with to := at_ }) := List.getElem?_set_self (List.getElem?_eq_some_iff.1 he8).1
      refine O.nil ?_
      refine J.seq ?_
      refine J.region ?_
      refine O.p (Pu.fieldAddr (off' := 4) Try.runUnderlying93 rfl Try.sizeOf3 rfl rfl rfl) rfl ?_
      refine O.q (Qt.ld rfl (Cel.var 1 rfl) (o := 0) (off := 4) rfl (Cut.one Try.isAgg3 rfl)) rfl ?_
      refine O.p (Pu.eql rfl rfl) rfl ?_
      refine O.nil ?_
      refine J.cond rfl (fun h10 => ?_) (fun h10 => ?_)
      ·
        have p11 := of_decide_eq_true h10
        refine J.drawTail 10 Try.mixed (by kernel_rfl) ?_
        refine S.p (Pu.move rfl) rfl ?_
        refine S.p (Pu.move rfl) rfl ?_
        refine S.p (Pu.nilCheck rfl) rfl ?_
        refine S.p (Pu.fieldAddr (off' := voff V6 + (((out ++ ([(⟨at_, 0, -1, 128⟩ : Run)])).length : Int) - 1).toNat * 4 + 2) Try.runUnderlying25 rfl Try.sizeOf3 rfl rfl rfl) rfl ?_
        refine S.q (Qt.ld rfl (Cel.eltM (Src.row 4 rfl) hs9) (o := (voff V6 + ((out ++ ([(⟨at_, 0, -1, 128⟩ : Run)])).length - 1) * 4)) (off := 2) (by omega) (Cut.one Try.isAgg3 rfl)) rfl ?_
        refine S.p (Pu.fieldAddr (off' := 5) Try.runUnderlying93 rfl Try.sizeOf3 rfl rfl rfl) rfl ?_
        refine S.q (Qt.ld rfl (Cel.var 1 rfl) (o := 0) (off := 5) rfl (Cut.one Try.isAgg3 rfl)) rfl ?_
        refine S.p (Pu.max rfl rfl) rfl ?_
        refine S.p (Pu.nilCheck rfl) rfl ?_
        refine S.p (Pu.fieldAddr (off' := voff V6 + (((out ++ ([(⟨at_, 0, -1, 128⟩ : Run)])).length : Int) - 1).toNat * 4 + 2) Try.runUnderlying25 rfl Try.sizeOf3 rfl rfl rfl) rfl ?_
        refine S.endO ?_
        refine O.l0 (Lo.storeM 4 (j := ((out ++ ([(⟨at_, 0, -1, 128⟩ : Run)])).length - 1)) (off := 2) (vs := [.int .i64 (if e.a > (({ e8 with to := at_ }).pass) then e.a else (({ e8 with to := at_ }).pass))]) (e := [.int .i64 (({ e8 with to := at_ }).frm), .int .i64 (({ e8 with to := at_ }).to), .int .i64 (({ e8 with to := at_ }).pass), .int .i64 (({ e8 with to := at_ }).stop)]) ({ { e8 with to := at_ } with pass := if e.a > (({ e8 with to := at_ }).pass) then e.a else (({ e8 with to := at_ }).pass) }) rfl rfl rfl rfl (by omega) hs9 rfl (by exact Try.sizeOf3) rfl rfl rfl rfl rfl) ?_
        rintro _ _ rfl
        have hs12 : (((out ++ ([(⟨at_, 0, -1, 128⟩ : Run)])).set ((out ++ ([(⟨at_, 0, -1, 128⟩ : Run)])).length - 1) ({ e8 with to := at_ })).set ((out ++ ([(⟨at_, 0, -1, 128⟩ : Run)])).length - 1) ({ { e8 with to := at_ } with pass := if e.a > (({ e8 with to := at_ }).pass) then e.a else (({ e8 with to := at_ }).pass) }))[((out ++ ([(⟨at_, 0, -1, 128⟩ : Run)])).length - 1)]? = some ({ { e8 with to := at_ } with pass := if e.a > (({ e8 with to := at_ }).pass) then e.a else (({ e8 with to := at_ }).pass) }) := List.getElem?_set_self (List.getElem?_eq_some_iff.1 hs9).1
        refine O.nil ?_
        exact J.done (Fin.ret (rs := []) rfl [] trivial [2, 3, 4] (by decide) [var gb [.bool true] 4, var go [V6] 36, row V6 25 4 ((((out ++ ([(⟨at_, 0, -1, 128⟩ : Run)])).set ((out ++ ([(⟨at_, 0, -1, 128⟩ : Run)])).length - 1) ({ e8 with to := at_ })).set ((out ++ ([(⟨at_, 0, -1, 128⟩ : Run)])).length - 1) ({ { e8 with to := at_ } with pass := if e.a > (({ e8 with to := at_ }).pass) then e.a else (({ e8 with to := at_ }).pass) })).map Run.cells)] rfl ⟨rfl, V6, congrArg (fun l => ([var gb [.bool true] 4, var go [V6] 36, row V6 25 4 (l.map Run.cells)] : List Sp)) (Mono.note_fin (by simp [Mono.opened, *]) rfl (by assumption) _ (by simp [Mono.put, *]))⟩)
      ·
        have p13 := of_decide_eq_false h10
        refine J.drawTail 10 Try.mixed (by kernel_rfl) ?_
        refine S.p (Pu.move rfl) rfl ?_
        refine S.p (Pu.move rfl) rfl ?_
        refine S.p (Pu.nilCheck rfl) rfl ?_
        refine S.p (Pu.fieldAddr (off' := voff V6 + (((out ++ ([(⟨at_, 0, -1, 128⟩ : Run)])).length : Int) - 1).toNat * 4 + 3) Try.runUnderlying25 rfl Try.sizeOf3 rfl rfl rfl) rfl ?_
        refine S.q (Qt.ld rfl (Cel.eltM (Src.row 4 rfl) hs9) (o := (voff V6 + ((out ++ ([(⟨at_, 0, -1, 128⟩ : Run)])).length - 1) * 4)) (off := 3) (by omega) (Cut.one Try.isAgg3 rfl)) rfl ?_
        refine S.p (Pu.fieldAddr (off' := 5) Try.runUnderlying93 rfl Try.sizeOf3 rfl rfl rfl) rfl ?_
        refine S.q (Qt.ld rfl (Cel.var 1 rfl) (o := 0) (off := 5) rfl (Cut.one Try.isAgg3 rfl)) rfl ?_
        refine S.p (Pu.min rfl rfl) rfl ?_
        refine S.p (Pu.nilCheck rfl) rfl ?_
        refine S.p (Pu.fieldAddr (off' := voff V6 + (((out ++ ([(⟨at_, 0, -1, 128⟩ : Run)])).length : Int) - 1).toNat * 4 + 3) Try.runUnderlying25 rfl Try.sizeOf3 rfl rfl rfl) rfl ?_
        refine S.endO ?_
        refine O.l0 (Lo.storeM 4 (j := ((out ++ ([(⟨at_, 0, -1, 128⟩ : Run)])).length - 1)) (off := 3) (vs := [.int .i64 (if e.a < (({ e8 with to := at_ }).stop) then e.a else (({ e8 with to := at_ }).stop))]) (e := [.int .i64 (({ e8 with to := at_ }).frm), .int .i64 (({ e8 with to := at_ }).to), .int .i64 (({ e8 with to := at_ }).pass), .int .i64 (({ e8 with to := at_ }).stop)]) ({ { e8 with to := at_ } with stop := if e.a < (({ e8 with to := at_ }).stop) then e.a else (({ e8 with to := at_ }).stop) }) rfl rfl rfl rfl (by omega) hs9 rfl (by exact Try.sizeOf3) rfl rfl rfl rfl rfl) ?_
        rintro _ _ rfl
        have hs14 : (((out ++ ([(⟨at_, 0, -1, 128⟩ : Run)])).set ((out ++ ([(⟨at_, 0, -1, 128⟩ : Run)])).length - 1) ({ e8 with to := at_ })).set ((out ++ ([(⟨at_, 0, -1, 128⟩ : Run)])).length - 1) ({ { e8 with to := at_ } with stop := if e.a < (({ e8 with to := at_ }).stop) then e.a else (({ e8 with to := at_ }).stop) }))[((out ++ ([(⟨at_, 0, -1, 128⟩ : Run)])).length - 1)]? = some ({ { e8 with to := at_ } with stop := if e.a < (({ e8 with to := at_ }).stop) then e.a else (({ e8 with to := at_ }).stop) }) := List.getElem?_set_self (List.getElem?_eq_some_iff.1 hs9).1
        refine O.nil ?_
        exact J.done (Fin.ret (rs := []) rfl [] trivial [2, 3, 4] (by decide) [var gb [.bool true] 4, var go [V6] 36, row V6 25 4 ((((out ++ ([(⟨at_, 0, -1, 128⟩ : Run)])).set ((out ++ ([(⟨at_, 0, -1, 128⟩ : Run)])).length - 1) ({ e8 with to := at_ })).set ((out ++ ([(⟨at_, 0, -1, 128⟩ : Run)])).length - 1) ({ { e8 with to := at_ } with stop := if e.a < (({ e8 with to := at_ }).stop) then e.a else (({ e8 with to := at_ }).stop) })).map Run.cells)] rfl ⟨rfl, V6, congrArg (fun l => ([var gb [.bool true] 4, var go [V6] 36, row V6 25 4 (l.map Run.cells)] : List Sp)) (Mono.note_fin (by simp [Mono.opened, *]) rfl (by assumption) _ (by simp [Mono.put, *]))⟩)
    ·
      refine W.l (listed' := #[false, true, true, false, false, false]) rfl rfl (Lo.call [.int .i64 at_] (by exact Try.call54) rfl (mono_fresh at_) [] [0, 1, 2, 3] (by decide) rfl _ rfl RoOk.nil) rfl ?_
      rintro _ _ ⟨_, ⟨rfl, rfl⟩, rfl⟩
      refine D.all 0 [3] (by kernel_rfl) ⟨?_, ?_, trivial⟩
      ·
        refine W.q (listed' := #[true, true, true, false, false, false]) rfl rfl (Qt.ld rfl (Cel.var 2 rfl) (o := 0) (off := 0) rfl (Cut.one Try.isAgg36 rfl)) rfl ?_
        refine D.all 3 [] (by kernel_rfl) ⟨?_, trivial⟩
        refine W.l (listed' := #[true, true, true, true, false, false]) rfl rfl (Lo.buildM (s := 4) Run.cells [(⟨at_, 0, -1, 128⟩ : Run)] [(0, .agg #[.int .i64 at_, .int .i64 0, .int .i64 (-1), .int .i64 128])] (by exact Try.runUnderlying36) (by exact Try.sizeOf25) (by exact Try.zeroValue25) rfl rfl rfl (by kernel_rfl) rfl rfl) rfl ?_
        rintro V16 _ rfl
        refine D.all 4 [] (by kernel_rfl) ⟨?_, trivial⟩
        refine W.l (listed' := #[true, true, true, true, true, false]) rfl rfl (Lo.appendM (s := 4) 4 (by exact Try.underlying36) (by exact (info25).1) (by exact (info25).2.1) (by exact (info25).2.2.1) (by exact (info25).2.2.2) rfl rfl rfl rfl rfl (Src.row 0 rfl) Run.one (by (try simp only [List.length_append, List.length_cons, List.length_nil, List.length_set]) <;> first | omega | (have hb2 := hb1 rfl; omega)) (by (try simp only [List.length_append, List.length_cons, List.length_nil, List.length_set]) <;> first | omega | (have hb2 := hb1 rfl; omega))) rfl ?_
        rintro V17 _ rfl
        refine D.all 5 [] (by kernel_rfl) ⟨?_, trivial⟩
        refine W.one (Src.row 4 rfl) (fun hV18 => ?_)
        refine W.l0 (listed' := #[true, true, true, true, true, true]) rfl rfl (Lo.store 3 (vs := [V17]) [V17] rfl rfl rfl (by exact Try.sizeOf36) (one_cells hV18) rfl (one_all hV18) rfl rfl) ?_
        rintro _ _ rfl
        refine D.done (by kernel_rfl) ?_
        refine J.region ?_
        refine O.l0 (Lo.store 2 (vs := [.bool true]) [.bool true] rfl rfl rfl (by exact Try.sizeOf4) rfl rfl rfl rfl rfl) ?_
        rintro _ _ rfl
        refine O.nil ?_
        refine J.seq ?_
        refine J.region ?_
        refine O.q (Qt.ld rfl (Cel.var 3 rfl) (o := 0) (off := 0) rfl (Cut.one Try.isAgg36 rfl)) rfl ?_
        refine O.q (Qt.ld rfl (Cel.var 3 rfl) (o := 0) (off := 0) rfl (Cut.one Try.isAgg36 rfl)) rfl ?_
        refine O.q (Qt.lenM Try.runUnderlying36 rfl (Src.row 4 rfl)) rfl ?_
        refine O.p (Pu.sub' rfl rfl (by first | omega | (simp only [List.length_append, List.length_cons, List.length_nil, List.length_set]; omega))) rfl ?_
        obtain ⟨e19, he19⟩ : ∃ e, (out ++ ([(⟨at_, 0, -1, 128⟩ : Run)]))[((out ++ ([(⟨at_, 0, -1, 128⟩ : Run)])).length - 1)]? = some e := ⟨_, List.getElem?_eq_getElem (by (try simp only [List.length_append, List.length_cons, List.length_nil, List.length_set]) <;> first | omega | (have hb2 := hb1 rfl; omega))⟩
        refine O.q (Qt.idxM Try.runUnderlying36 Try.sizeOf25 rfl (Src.row 4 rfl) rfl (by (try simp only [List.length_append, List.length_cons, List.length_nil, List.length_set]) <;> first | omega | (have hb2 := hb1 rfl; omega)) (by (try simp only [List.length_append, List.length_cons, List.length_nil, List.length_set]) <;> first | omega | (have hb2 := hb1 rfl; omega))) rfl ?_
        refine O.p (Pu.assign rfl) rfl ?_
        refine O.nil ?_
        refine J.seq ?_
        refine J.region ?_
        refine O.p (Pu.move rfl) rfl ?_
        refine O.p (Pu.move rfl) rfl ?_
        refine O.p (Pu.nilCheck rfl) rfl ?_
        refine O.p (Pu.fieldAddr (off' := voff V17 + (((out ++ ([(⟨at_, 0, -1, 128⟩ : Run)])).length : Int) - 1).toNat * 4 + 1) Try.runUnderlying25 rfl Try.sizeOf3 rfl rfl rfl) rfl ?_
        refine O.l0 (Lo.storeM 4 (j := ((out ++ ([(⟨at_, 0, -1, 128⟩ : Run)])).length - 1)) (off := 1) (vs := [.int .i64 at_]) (e := [.int .i64 e19.frm, .int .i64 e19.to, .int .i64 e19.pass, .int .i64 e19.stop]) ({ e19 with to := at_ }) rfl rfl rfl rfl (by omega) he19 rfl (by exact Try.sizeOf3) rfl rfl rfl rfl rfl) ?_
        rintro _ _ rfl
        have hs20 : ((out ++ ([(⟨at_, 0, -1, 128⟩ : Run)])).set ((out ++ ([(⟨at_, 0, -1, 128⟩ : Run)])).length - 1) ({ e19 with to := at_ }))[((out ++ ([(⟨at_, 0, -1, 128⟩ : Run)])).length - 1)]? = some ({ e19 with to := at_ }) := List.getElem?_set_self (List.getElem?_eq_some_iff.1 he19).1
        refine O.nil ?_
        refine J.seq ?_
        refine J.region ?_
        refine O.p (Pu.fieldAddr (off' := 4) Try.runUnderlying93 rfl Try.sizeOf3 rfl rfl rfl) rfl ?_
        refine O.q (Qt.ld rfl (Cel.var 1 rfl) (o := 0) (off := 4) rfl (Cut.one Try.isAgg3 rfl)) rfl ?_
        refine O.p (Pu.eql rfl rfl) rfl ?_
        refine O.nil ?_
        refine J.cond rfl (fun h21 => ?_) (fun h21 => ?_)
        ·
          have p22 := of_decide_eq_true h21
          refine J.drawTail 10 Try.mixed (by kernel_rfl) ?_
          refine S.p (Pu.move rfl) rfl ?_
          refine S.p (Pu.move rfl) rfl ?_
          refine S.p (Pu.nilCheck rfl) rfl ?_
          refine S.p (Pu.fieldAddr (off' := voff V17 + (((out ++ ([(⟨at_, 0, -1, 128⟩ : Run)])).length : Int) - 1).toNat * 4 + 2) Try.runUnderlying25 rfl Try.sizeOf3 rfl rfl rfl) rfl ?_
          refine S.q (Qt.ld rfl (Cel.eltM (Src.row 4 rfl) hs20) (o := (voff V17 + ((out ++ ([(⟨at_, 0, -1, 128⟩ : Run)])).length - 1) * 4)) (off := 2) (by omega) (Cut.one Try.isAgg3 rfl)) rfl ?_
          refine S.p (Pu.fieldAddr (off' := 5) Try.runUnderlying93 rfl Try.sizeOf3 rfl rfl rfl) rfl ?_
          refine S.q (Qt.ld rfl (Cel.var 1 rfl) (o := 0) (off := 5) rfl (Cut.one Try.isAgg3 rfl)) rfl ?_
          refine S.p (Pu.max rfl rfl) rfl ?_
          refine S.p (Pu.nilCheck rfl) rfl ?_
          refine S.p (Pu.fieldAddr (off' := voff V17 + (((out ++ ([(⟨at_, 0, -1, 128⟩ : Run)])).length : Int) - 1).toNat * 4 + 2) Try.runUnderlying25 rfl Try.sizeOf3 rfl rfl rfl) rfl ?_
          refine S.endO ?_
          refine O.l0 (Lo.storeM 4 (j := ((out ++ ([(⟨at_, 0, -1, 128⟩ : Run)])).length - 1)) (off := 2) (vs := [.int .i64 (if e.a > (({ e19 with to := at_ }).pass) then e.a else (({ e19 with to := at_ }).pass))]) (e := [.int .i64 (({ e19 with to := at_ }).frm), .int .i64 (({ e19 with to := at_ }).to), .int .i64 (({ e19 with to := at_ }).pass), .int .i64 (({ e19 with to := at_ }).stop)]) ({ { e19 with to := at_ } with pass := if e.a > (({ e19 with to := at_ }).pass) then e.a else (({ e19 with to := at_ }).pass) }) rfl rfl rfl rfl (by omega) hs20 rfl (by exact Try.sizeOf3) rfl rfl rfl rfl rfl) ?_
          rintro _ _ rfl
          have hs23 : (((out ++ ([(⟨at_, 0, -1, 128⟩ : Run)])).set ((out ++ ([(⟨at_, 0, -1, 128⟩ : Run)])).length - 1) ({ e19 with to := at_ })).set ((out ++ ([(⟨at_, 0, -1, 128⟩ : Run)])).length - 1) ({ { e19 with to := at_ } with pass := if e.a > (({ e19 with to := at_ }).pass) then e.a else (({ e19 with to := at_ }).pass) }))[((out ++ ([(⟨at_, 0, -1, 128⟩ : Run)])).length - 1)]? = some ({ { e19 with to := at_ } with pass := if e.a > (({ e19 with to := at_ }).pass) then e.a else (({ e19 with to := at_ }).pass) }) := List.getElem?_set_self (List.getElem?_eq_some_iff.1 hs20).1
          refine O.nil ?_
          exact J.done (Fin.ret (rs := []) rfl [] trivial [2, 3, 4] (by decide) [var gb [.bool true] 4, var go [V17] 36, row V17 25 4 ((((out ++ ([(⟨at_, 0, -1, 128⟩ : Run)])).set ((out ++ ([(⟨at_, 0, -1, 128⟩ : Run)])).length - 1) ({ e19 with to := at_ })).set ((out ++ ([(⟨at_, 0, -1, 128⟩ : Run)])).length - 1) ({ { e19 with to := at_ } with pass := if e.a > (({ e19 with to := at_ }).pass) then e.a else (({ e19 with to := at_ }).pass) })).map Run.cells)] rfl ⟨rfl, V17, congrArg (fun l => ([var gb [.bool true] 4, var go [V17] 36, row V17 25 4 (l.map Run.cells)] : List Sp)) (Mono.note_fin (by simp [Mono.opened, *]) rfl (by assumption) _ (by simp [Mono.put, *]))⟩)
        ·
          have p24 := of_decide_eq_false h21
          refine J.drawTail 10 Try.mixed (by kernel_rfl) ?_
          refine S.p (Pu.move rfl) rfl ?_
          refine S.p (Pu.move rfl) rfl ?_
          refine S.p (Pu.nilCheck rfl) rfl ?_
          refine S.p (Pu.fieldAddr (off' := voff V17 + (((out ++ ([(⟨at_, 0, -1, 128⟩ : Run)])).length : Int) - 1).toNat * 4 + 3) Try.runUnderlying25 rfl Try.sizeOf3 rfl rfl rfl) rfl ?_
          refine S.q (Qt.ld rfl (Cel.eltM (Src.row 4 rfl) hs20) (o := (voff V17 + ((out ++ ([(⟨at_, 0, -1, 128⟩ : Run)])).length - 1) * 4)) (off := 3) (by omega) (Cut.one Try.isAgg3 rfl)) rfl ?_
          refine S.p (Pu.fieldAddr (off' := 5) Try.runUnderlying93 rfl Try.sizeOf3 rfl rfl rfl) rfl ?_
          refine S.q (Qt.ld rfl (Cel.var 1 rfl) (o := 0) (off := 5) rfl (Cut.one Try.isAgg3 rfl)) rfl ?_
          refine S.p (Pu.min rfl rfl) rfl ?_
          refine S.p (Pu.nilCheck rfl) rfl ?_
          refine S.p (Pu.fieldAddr (off' := voff V17 + (((out ++ ([(⟨at_, 0, -1, 128⟩ : Run)])).length : Int) - 1).toNat * 4 + 3) Try.runUnderlying25 rfl Try.sizeOf3 rfl rfl rfl) rfl ?_
          refine S.endO ?_
          refine O.l0 (Lo.storeM 4 (j := ((out ++ ([(⟨at_, 0, -1, 128⟩ : Run)])).length - 1)) (off := 3) (vs := [.int .i64 (if e.a < (({ e19 with to := at_ }).stop) then e.a else (({ e19 with to := at_ }).stop))]) (e := [.int .i64 (({ e19 with to := at_ }).frm), .int .i64 (({ e19 with to := at_ }).to), .int .i64 (({ e19 with to := at_ }).pass), .int .i64 (({ e19 with to := at_ }).stop)]) ({ { e19 with to := at_ } with stop := if e.a < (({ e19 with to := at_ }).stop) then e.a else (({ e19 with to := at_ }).stop) }) rfl rfl rfl rfl (by omega) hs20 rfl (by exact Try.sizeOf3) rfl rfl rfl rfl rfl) ?_
          rintro _ _ rfl
          have hs25 : (((out ++ ([(⟨at_, 0, -1, 128⟩ : Run)])).set ((out ++ ([(⟨at_, 0, -1, 128⟩ : Run)])).length - 1) ({ e19 with to := at_ })).set ((out ++ ([(⟨at_, 0, -1, 128⟩ : Run)])).length - 1) ({ { e19 with to := at_ } with stop := if e.a < (({ e19 with to := at_ }).stop) then e.a else (({ e19 with to := at_ }).stop) }))[((out ++ ([(⟨at_, 0, -1, 128⟩ : Run)])).length - 1)]? = some ({ { e19 with to := at_ } with stop := if e.a < (({ e19 with to := at_ }).stop) then e.a else (({ e19 with to := at_ }).stop) }) := List.getElem?_set_self (List.getElem?_eq_some_iff.1 hs20).1
          refine O.nil ?_
          exact J.done (Fin.ret (rs := []) rfl [] trivial [2, 3, 4] (by decide) [var gb [.bool true] 4, var go [V17] 36, row V17 25 4 ((((out ++ ([(⟨at_, 0, -1, 128⟩ : Run)])).set ((out ++ ([(⟨at_, 0, -1, 128⟩ : Run)])).length - 1) ({ e19 with to := at_ })).set ((out ++ ([(⟨at_, 0, -1, 128⟩ : Run)])).length - 1) ({ { e19 with to := at_ } with stop := if e.a < (({ e19 with to := at_ }).stop) then e.a else (({ e19 with to := at_ }).stop) })).map Run.cells)] rfl ⟨rfl, V17, congrArg (fun l => ([var gb [.bool true] 4, var go [V17] 36, row V17 25 4 (l.map Run.cells)] : List Sp)) (Mono.note_fin (by simp [Mono.opened, *]) rfl (by assumption) _ (by simp [Mono.put, *]))⟩)
      ·
        refine W.l (listed' := #[false, true, true, true, false, false]) rfl rfl (Lo.buildM (s := 4) Run.cells [(⟨at_, 0, -1, 128⟩ : Run)] [(0, .agg #[.int .i64 at_, .int .i64 0, .int .i64 (-1), .int .i64 128])] (by exact Try.runUnderlying36) (by exact Try.sizeOf25) (by exact Try.zeroValue25) rfl rfl rfl (by kernel_rfl) rfl rfl) rfl ?_
        rintro V26 _ rfl
        refine D.all 0 [] (by kernel_rfl) ⟨?_, trivial⟩
        refine W.q (listed' := #[true, true, true, true, false, false]) rfl rfl (Qt.ld rfl (Cel.var 3 rfl) (o := 0) (off := 0) rfl (Cut.one Try.isAgg36 rfl)) rfl ?_
        refine D.all 4 [] (by kernel_rfl) ⟨?_, trivial⟩
        refine W.l (listed' := #[true, true, true, true, true, false]) rfl rfl (Lo.appendM (s := 4) 4 (by exact Try.underlying36) (by exact (info25).1) (by exact (info25).2.1) (by exact (info25).2.2.1) (by exact (info25).2.2.2) rfl rfl rfl rfl rfl (Src.row 0 rfl) Run.one (by (try simp only [List.length_append, List.length_cons, List.length_nil, List.length_set]) <;> first | omega | (have hb2 := hb1 rfl; omega)) (by (try simp only [List.length_append, List.length_cons, List.length_nil, List.length_set]) <;> first | omega | (have hb2 := hb1 rfl; omega))) rfl ?_
        rintro V27 _ rfl
        refine D.all 5 [] (by kernel_rfl) ⟨?_, trivial⟩
        refine W.one (Src.row 4 rfl) (fun hV28 => ?_)
        refine W.l0 (listed' := #[true, true, true, true, true, true]) rfl rfl (Lo.store 3 (vs := [V27]) [V27] rfl rfl rfl (by exact Try.sizeOf36) (one_cells hV28) rfl (one_all hV28) rfl rfl) ?_
        rintro _ _ rfl
        refine D.done (by kernel_rfl) ?_
        refine J.region ?_
        refine O.l0 (Lo.store 2 (vs := [.bool true]) [.bool true] rfl rfl rfl (by exact Try.sizeOf4) rfl rfl rfl rfl rfl) ?_
        rintro _ _ rfl
        refine O.nil ?_
        refine J.seq ?_
        refine J.region ?_
        refine O.q (Qt.ld rfl (Cel.var 3 rfl) (o := 0) (off := 0) rfl (Cut.one Try.isAgg36 rfl)) rfl ?_
        refine O.q (Qt.ld rfl (Cel.var 3 rfl) (o := 0) (off := 0) rfl (Cut.one Try.isAgg36 rfl)) rfl ?_
        refine O.q (Qt.lenM Try.runUnderlying36 rfl (Src.row 4 rfl)) rfl ?_
        refine O.p (Pu.sub' rfl rfl (by first | omega | (simp only [List.length_append, List.length_cons, List.length_nil, List.length_set]; omega))) rfl ?_
        obtain ⟨e29, he29⟩ : ∃ e, (out ++ ([(⟨at_, 0, -1, 128⟩ : Run)]))[((out ++ ([(⟨at_, 0, -1, 128⟩ : Run)])).length - 1)]? = some e := ⟨_, List.getElem?_eq_getElem (by (try simp only [List.length_append, List.length_cons, List.length_nil, List.length_set]) <;> first | omega | (have hb2 := hb1 rfl; omega))⟩
        refine O.q (Qt.idxM Try.runUnderlying36 Try.sizeOf25 rfl (Src.row 4 rfl) rfl (by (try simp only [List.length_append, List.length_cons, List.length_nil, List.length_set]) <;> first | omega | (have hb2 := hb1 rfl; omega)) (by (try simp only [List.length_append, List.length_cons, List.length_nil, List.length_set]) <;> first | omega | (have hb2 := hb1 rfl; omega))) rfl ?_
        refine O.p (Pu.assign rfl) rfl ?_
        refine O.nil ?_
        refine J.seq ?_
        refine J.region ?_
        refine O.p (Pu.move rfl) rfl ?_
        refine O.p (Pu.move rfl) rfl ?_
        refine O.p (Pu.nilCheck rfl) rfl ?_
        refine O.p (Pu.fieldAddr (off' := voff V27 + (((out ++ ([(⟨at_, 0, -1, 128⟩ : Run)])).length : Int) - 1).toNat * 4 + 1) Try.runUnderlying25 rfl Try.sizeOf3 rfl rfl rfl) rfl ?_
        refine O.l0 (Lo.storeM 4 (j := ((out ++ ([(⟨at_, 0, -1, 128⟩ : Run)])).length - 1)) (off := 1) (vs := [.int .i64 at_]) (e := [.int .i64 e29.frm, .int .i64 e29.to, .int .i64 e29.pass, .int .i64 e29.stop]) ({ e29 with to := at_ }) rfl rfl rfl rfl (by omega) he29 rfl (by exact Try.sizeOf3) rfl rfl rfl rfl rfl) ?_
        rintro _ _ rfl
        have hs30 : ((out ++ ([(⟨at_, 0, -1, 128⟩ : Run)])).set ((out ++ ([(⟨at_, 0, -1, 128⟩ : Run)])).length - 1) ({ e29 with to := at_ }))[((out ++ ([(⟨at_, 0, -1, 128⟩ : Run)])).length - 1)]? = some ({ e29 with to := at_ }) := List.getElem?_set_self (List.getElem?_eq_some_iff.1 he29).1
        refine O.nil ?_
        refine J.seq ?_
        refine J.region ?_
        refine O.p (Pu.fieldAddr (off' := 4) Try.runUnderlying93 rfl Try.sizeOf3 rfl rfl rfl) rfl ?_
        refine O.q (Qt.ld rfl (Cel.var 1 rfl) (o := 0) (off := 4) rfl (Cut.one Try.isAgg3 rfl)) rfl ?_
        refine O.p (Pu.eql rfl rfl) rfl ?_
        refine O.nil ?_
        refine J.cond rfl (fun h31 => ?_) (fun h31 => ?_)
        ·
          have p32 := of_decide_eq_true h31
          refine J.drawTail 10 Try.mixed (by kernel_rfl) ?_
          refine S.p (Pu.move rfl) rfl ?_
          refine S.p (Pu.move rfl) rfl ?_
          refine S.p (Pu.nilCheck rfl) rfl ?_
          refine S.p (Pu.fieldAddr (off' := voff V27 + (((out ++ ([(⟨at_, 0, -1, 128⟩ : Run)])).length : Int) - 1).toNat * 4 + 2) Try.runUnderlying25 rfl Try.sizeOf3 rfl rfl rfl) rfl ?_
          refine S.q (Qt.ld rfl (Cel.eltM (Src.row 4 rfl) hs30) (o := (voff V27 + ((out ++ ([(⟨at_, 0, -1, 128⟩ : Run)])).length - 1) * 4)) (off := 2) (by omega) (Cut.one Try.isAgg3 rfl)) rfl ?_
          refine S.p (Pu.fieldAddr (off' := 5) Try.runUnderlying93 rfl Try.sizeOf3 rfl rfl rfl) rfl ?_
          refine S.q (Qt.ld rfl (Cel.var 1 rfl) (o := 0) (off := 5) rfl (Cut.one Try.isAgg3 rfl)) rfl ?_
          refine S.p (Pu.max rfl rfl) rfl ?_
          refine S.p (Pu.nilCheck rfl) rfl ?_
          refine S.p (Pu.fieldAddr (off' := voff V27 + (((out ++ ([(⟨at_, 0, -1, 128⟩ : Run)])).length : Int) - 1).toNat * 4 + 2) Try.runUnderlying25 rfl Try.sizeOf3 rfl rfl rfl) rfl ?_
          refine S.endO ?_
          refine O.l0 (Lo.storeM 4 (j := ((out ++ ([(⟨at_, 0, -1, 128⟩ : Run)])).length - 1)) (off := 2) (vs := [.int .i64 (if e.a > (({ e29 with to := at_ }).pass) then e.a else (({ e29 with to := at_ }).pass))]) (e := [.int .i64 (({ e29 with to := at_ }).frm), .int .i64 (({ e29 with to := at_ }).to), .int .i64 (({ e29 with to := at_ }).pass), .int .i64 (({ e29 with to := at_ }).stop)]) ({ { e29 with to := at_ } with pass := if e.a > (({ e29 with to := at_ }).pass) then e.a else (({ e29 with to := at_ }).pass) }) rfl rfl rfl rfl (by omega) hs30 rfl (by exact Try.sizeOf3) rfl rfl rfl rfl rfl) ?_
          rintro _ _ rfl
          have hs33 : (((out ++ ([(⟨at_, 0, -1, 128⟩ : Run)])).set ((out ++ ([(⟨at_, 0, -1, 128⟩ : Run)])).length - 1) ({ e29 with to := at_ })).set ((out ++ ([(⟨at_, 0, -1, 128⟩ : Run)])).length - 1) ({ { e29 with to := at_ } with pass := if e.a > (({ e29 with to := at_ }).pass) then e.a else (({ e29 with to := at_ }).pass) }))[((out ++ ([(⟨at_, 0, -1, 128⟩ : Run)])).length - 1)]? = some ({ { e29 with to := at_ } with pass := if e.a > (({ e29 with to := at_ }).pass) then e.a else (({ e29 with to := at_ }).pass) }) := List.getElem?_set_self (List.getElem?_eq_some_iff.1 hs30).1
          refine O.nil ?_
          exact J.done (Fin.ret (rs := []) rfl [] trivial [2, 3, 4] (by decide) [var gb [.bool true] 4, var go [V27] 36, row V27 25 4 ((((out ++ ([(⟨at_, 0, -1, 128⟩ : Run)])).set ((out ++ ([(⟨at_, 0, -1, 128⟩ : Run)])).length - 1) ({ e29 with to := at_ })).set ((out ++ ([(⟨at_, 0, -1, 128⟩ : Run)])).length - 1) ({ { e29 with to := at_ } with pass := if e.a > (({ e29 with to := at_ }).pass) then e.a else (({ e29 with to := at_ }).pass) })).map Run.cells)] rfl ⟨rfl, V27, congrArg (fun l => ([var gb [.bool true] 4, var go [V27] 36, row V27 25 4 (l.map Run.cells)] : List Sp)) (Mono.note_fin (by simp [Mono.opened, *]) rfl (by assumption) _ (by simp [Mono.put, *]))⟩)
        ·
          have p34 := of_decide_eq_false h31
          refine J.drawTail 10 Try.mixed (by kernel_rfl) ?_
          refine S.p (Pu.move rfl) rfl ?_
          refine S.p (Pu.move rfl) rfl ?_
          refine S.p (Pu.nilCheck rfl) rfl ?_
          refine S.p (Pu.fieldAddr (off' := voff V27 + (((out ++ ([(⟨at_, 0, -1, 128⟩ : Run)])).length : Int) - 1).toNat * 4 + 3) Try.runUnderlying25 rfl Try.sizeOf3 rfl rfl rfl) rfl ?_
          refine S.q (Qt.ld rfl (Cel.eltM (Src.row 4 rfl) hs30) (o := (voff V27 + ((out ++ ([(⟨at_, 0, -1, 128⟩ : Run)])).length - 1) * 4)) (off := 3) (by omega) (Cut.one Try.isAgg3 rfl)) rfl ?_
          refine S.p (Pu.fieldAddr (off' := 5) Try.runUnderlying93 rfl Try.sizeOf3 rfl rfl rfl) rfl ?_
          refine S.q (Qt.ld rfl (Cel.var 1 rfl) (o := 0) (off := 5) rfl (Cut.one Try.isAgg3 rfl)) rfl ?_
          refine S.p (Pu.min rfl rfl) rfl ?_
          refine S.p (Pu.nilCheck rfl) rfl ?_
          refine S.p (Pu.fieldAddr (off' := voff V27 + (((out ++ ([(⟨at_, 0, -1, 128⟩ : Run)])).length : Int) - 1).toNat * 4 + 3) Try.runUnderlying25 rfl Try.sizeOf3 rfl rfl rfl) rfl ?_
          refine S.endO ?_
          refine O.l0 (Lo.storeM 4 (j := ((out ++ ([(⟨at_, 0, -1, 128⟩ : Run)])).length - 1)) (off := 3) (vs := [.int .i64 (if e.a < (({ e29 with to := at_ }).stop) then e.a else (({ e29 with to := at_ }).stop))]) (e := [.int .i64 (({ e29 with to := at_ }).frm), .int .i64 (({ e29 with to := at_ }).to), .int .i64 (({ e29 with to := at_ }).pass), .int .i64 (({ e29 with to := at_ }).stop)]) ({ { e29 with to := at_ } with stop := if e.a < (({ e29 with to := at_ }).stop) then e.a else (({ e29 with to := at_ }).stop) }) rfl rfl rfl rfl (by omega) hs30 rfl (by exact Try.sizeOf3) rfl rfl rfl rfl rfl) ?_
          rintro _ _ rfl
          have hs35 : (((out ++ ([(⟨at_, 0, -1, 128⟩ : Run)])).set ((out ++ ([(⟨at_, 0, -1, 128⟩ : Run)])).length - 1) ({ e29 with to := at_ })).set ((out ++ ([(⟨at_, 0, -1, 128⟩ : Run)])).length - 1) ({ { e29 with to := at_ } with stop := if e.a < (({ e29 with to := at_ }).stop) then e.a else (({ e29 with to := at_ }).stop) }))[((out ++ ([(⟨at_, 0, -1, 128⟩ : Run)])).length - 1)]? = some ({ { e29 with to := at_ } with stop := if e.a < (({ e29 with to := at_ }).stop) then e.a else (({ e29 with to := at_ }).stop) }) := List.getElem?_set_self (List.getElem?_eq_some_iff.1 hs30).1
          refine O.nil ?_
          exact J.done (Fin.ret (rs := []) rfl [] trivial [2, 3, 4] (by decide) [var gb [.bool true] 4, var go [V27] 36, row V27 25 4 ((((out ++ ([(⟨at_, 0, -1, 128⟩ : Run)])).set ((out ++ ([(⟨at_, 0, -1, 128⟩ : Run)])).length - 1) ({ e29 with to := at_ })).set ((out ++ ([(⟨at_, 0, -1, 128⟩ : Run)])).length - 1) ({ { e29 with to := at_ } with stop := if e.a < (({ e29 with to := at_ }).stop) then e.a else (({ e29 with to := at_ }).stop) })).map Run.cells)] rfl ⟨rfl, V27, congrArg (fun l => ([var gb [.bool true] 4, var go [V27] 36, row V27 25 4 (l.map Run.cells)] : List Sp)) (Mono.note_fin (by simp [Mono.opened, *]) rfl (by assumption) _ (by simp [Mono.put, *]))⟩)
  ·
    have h36 : b = true := by simpa using h2
    subst h36
    refine J.skip ?_
    refine J.seq ?_
    refine J.region ?_
    refine O.q (Qt.ld rfl (Cel.var 2 rfl) (o := 0) (off := 0) rfl (Cut.one Try.isAgg36 rfl)) rfl ?_
    refine O.q (Qt.ld rfl (Cel.var 2 rfl) (o := 0) (off := 0) rfl (Cut.one Try.isAgg36 rfl)) rfl ?_
    refine O.q (Qt.lenM Try.runUnderlying36 rfl (Src.row 3 rfl)) rfl ?_
    refine O.p (Pu.sub' rfl rfl (by first | omega | (simp only [List.length_append, List.length_cons, List.length_nil, List.length_set]; omega))) rfl ?_
    obtain ⟨e37, he37⟩ : ∃ e, out[(out.length - 1)]? = some e := ⟨_, List.getElem?_eq_getElem (by (try simp only [List.length_append, List.length_cons, List.length_nil, List.length_set]) <;> first | omega | (have hb2 := hb1 rfl; omega))⟩
    refine O.q (Qt.idxM Try.runUnderlying36 Try.sizeOf25 rfl (Src.row 3 rfl) rfl (by (try simp only [List.length_append, List.length_cons, List.length_nil, List.length_set]) <;> first | omega | (have hb2 := hb1 rfl; omega)) (by (try simp only [List.length_append, List.length_cons, List.length_nil, List.length_set]) <;> first | omega | (have hb2 := hb1 rfl; omega))) rfl ?_
    refine O.p (Pu.assign rfl) rfl ?_
    refine O.nil ?_
    refine J.seq ?_
    refine J.region ?_
    refine O.p (Pu.move rfl) rfl ?_
    refine O.p (Pu.move rfl) rfl ?_
    refine O.p (Pu.nilCheck rfl) rfl ?_
    refine O.p (Pu.fieldAddr (off' := voff V + ((out.length : Int) - 1).toNat * 4 + 1) Try.runUnderlying25 rfl Try.sizeOf3 rfl rfl rfl) rfl ?_
    refine O.l0 (Lo.storeM 3 (j := (out.length - 1)) (off := 1) (vs := [.int .i64 at_]) (e := [.int .i64 e37.frm, .int .i64 e37.to, .int .i64 e37.pass, .int .i64 e37.stop]) ({ e37 with to := at_ }) rfl rfl rfl rfl (by omega) he37 rfl (by exact Try.sizeOf3) rfl rfl rfl rfl rfl) ?_
    rintro _ _ rfl
    have hs38 : (out.set (out.length - 1) ({ e37 with to := at_ }))[(out.length - 1)]? = some ({ e37 with to := at_ }) := List.getElem?_set_self (List.getElem?_eq_some_iff.1 he37).1
    refine O.nil ?_
    refine J.seq ?_
    refine J.region ?_
    refine O.p (Pu.fieldAddr (off' := 4) Try.runUnderlying93 rfl Try.sizeOf3 rfl rfl rfl) rfl ?_
    refine O.q (Qt.ld rfl (Cel.var 0 rfl) (o := 0) (off := 4) rfl (Cut.one Try.isAgg3 rfl)) rfl ?_
    refine O.p (Pu.eql rfl rfl) rfl ?_
    refine O.nil ?_
    refine J.cond rfl (fun h39 => ?_) (fun h39 => ?_)
    ·
      have p40 := of_decide_eq_true h39
      refine J.drawTail 10 Try.mixed (by kernel_rfl) ?_
      refine S.p (Pu.move rfl) rfl ?_
      refine S.p (Pu.move rfl) rfl ?_
      refine S.p (Pu.nilCheck rfl) rfl ?_
      refine S.p (Pu.fieldAddr (off' := voff V + ((out.length : Int) - 1).toNat * 4 + 2) Try.runUnderlying25 rfl Try.sizeOf3 rfl rfl rfl) rfl ?_
      refine S.q (Qt.ld rfl (Cel.eltM (Src.row 3 rfl) hs38) (o := (voff V + (out.length - 1) * 4)) (off := 2) (by omega) (Cut.one Try.isAgg3 rfl)) rfl ?_
      refine S.p (Pu.fieldAddr (off' := 5) Try.runUnderlying93 rfl Try.sizeOf3 rfl rfl rfl) rfl ?_
      refine S.q (Qt.ld rfl (Cel.var 0 rfl) (o := 0) (off := 5) rfl (Cut.one Try.isAgg3 rfl)) rfl ?_
      refine S.p (Pu.max rfl rfl) rfl ?_
      refine S.p (Pu.nilCheck rfl) rfl ?_
      refine S.p (Pu.fieldAddr (off' := voff V + ((out.length : Int) - 1).toNat * 4 + 2) Try.runUnderlying25 rfl Try.sizeOf3 rfl rfl rfl) rfl ?_
      refine S.endO ?_
      refine O.l0 (Lo.storeM 3 (j := (out.length - 1)) (off := 2) (vs := [.int .i64 (if e.a > (({ e37 with to := at_ }).pass) then e.a else (({ e37 with to := at_ }).pass))]) (e := [.int .i64 (({ e37 with to := at_ }).frm), .int .i64 (({ e37 with to := at_ }).to), .int .i64 (({ e37 with to := at_ }).pass), .int .i64 (({ e37 with to := at_ }).stop)]) ({ { e37 with to := at_ } with pass := if e.a > (({ e37 with to := at_ }).pass) then e.a else (({ e37 with to := at_ }).pass) }) rfl rfl rfl rfl (by omega) hs38 rfl (by exact Try.sizeOf3) rfl rfl rfl rfl rfl) ?_
      rintro _ _ rfl
      have hs41 : ((out.set (out.length - 1) ({ e37 with to := at_ })).set (out.length - 1) ({ { e37 with to := at_ } with pass := if e.a > (({ e37 with to := at_ }).pass) then e.a else (({ e37 with to := at_ }).pass) }))[(out.length - 1)]? = some ({ { e37 with to := at_ } with pass := if e.a > (({ e37 with to := at_ }).pass) then e.a else (({ e37 with to := at_ }).pass) }) := List.getElem?_set_self (List.getElem?_eq_some_iff.1 hs38).1
      refine O.nil ?_
      exact J.done (Fin.ret (rs := []) rfl [] trivial [1, 2, 3] (by decide) [var gb [.bool true] 4, var go [V] 36, row V 25 4 (((out.set (out.length - 1) ({ e37 with to := at_ })).set (out.length - 1) ({ { e37 with to := at_ } with pass := if e.a > (({ e37 with to := at_ }).pass) then e.a else (({ e37 with to := at_ }).pass) })).map Run.cells)] rfl ⟨rfl, V, congrArg (fun l => ([var gb [.bool true] 4, var go [V] 36, row V 25 4 (l.map Run.cells)] : List Sp)) (Mono.note_fin (by simp [Mono.opened, *]) rfl (by assumption) _ (by simp [Mono.put, *]))⟩)
    ·
      have p42 := of_decide_eq_false h39
      refine J.drawTail 10 Try.mixed (by kernel_rfl) ?_
      refine S.p (Pu.move rfl) rfl ?_
      refine S.p (Pu.move rfl) rfl ?_
      refine S.p (Pu.nilCheck rfl) rfl ?_
      refine S.p (Pu.fieldAddr (off' := voff V + ((out.length : Int) - 1).toNat * 4 + 3) Try.runUnderlying25 rfl Try.sizeOf3 rfl rfl rfl) rfl ?_
      refine S.q (Qt.ld rfl (Cel.eltM (Src.row 3 rfl) hs38) (o := (voff V + (out.length - 1) * 4)) (off := 3) (by omega) (Cut.one Try.isAgg3 rfl)) rfl ?_
      refine S.p (Pu.fieldAddr (off' := 5) Try.runUnderlying93 rfl Try.sizeOf3 rfl rfl rfl) rfl ?_
      refine S.q (Qt.ld rfl (Cel.var 0 rfl) (o := 0) (off := 5) rfl (Cut.one Try.isAgg3 rfl)) rfl ?_
      refine S.p (Pu.min rfl rfl) rfl ?_
      refine S.p (Pu.nilCheck rfl) rfl ?_
      refine S.p (Pu.fieldAddr (off' := voff V + ((out.length : Int) - 1).toNat * 4 + 3) Try.runUnderlying25 rfl Try.sizeOf3 rfl rfl rfl) rfl ?_
      refine S.endO ?_
      refine O.l0 (Lo.storeM 3 (j := (out.length - 1)) (off := 3) (vs := [.int .i64 (if e.a < (({ e37 with to := at_ }).stop) then e.a else (({ e37 with to := at_ }).stop))]) (e := [.int .i64 (({ e37 with to := at_ }).frm), .int .i64 (({ e37 with to := at_ }).to), .int .i64 (({ e37 with to := at_ }).pass), .int .i64 (({ e37 with to := at_ }).stop)]) ({ { e37 with to := at_ } with stop := if e.a < (({ e37 with to := at_ }).stop) then e.a else (({ e37 with to := at_ }).stop) }) rfl rfl rfl rfl (by omega) hs38 rfl (by exact Try.sizeOf3) rfl rfl rfl rfl rfl) ?_
      rintro _ _ rfl
      have hs43 : ((out.set (out.length - 1) ({ e37 with to := at_ })).set (out.length - 1) ({ { e37 with to := at_ } with stop := if e.a < (({ e37 with to := at_ }).stop) then e.a else (({ e37 with to := at_ }).stop) }))[(out.length - 1)]? = some ({ { e37 with to := at_ } with stop := if e.a < (({ e37 with to := at_ }).stop) then e.a else (({ e37 with to := at_ }).stop) }) := List.getElem?_set_self (List.getElem?_eq_some_iff.1 hs38).1
      refine O.nil ?_
      exact J.done (Fin.ret (rs := []) rfl [] trivial [1, 2, 3] (by decide) [var gb [.bool true] 4, var go [V] 36, row V 25 4 (((out.set (out.length - 1) ({ e37 with to := at_ })).set (out.length - 1) ({ { e37 with to := at_ } with stop := if e.a < (({ e37 with to := at_ }).stop) then e.a else (({ e37 with to := at_ }).stop) })).map Run.cells)] rfl ⟨rfl, V, congrArg (fun l => ([var gb [.bool true] 4, var go [V] 36, row V 25 4 (l.map Run.cells)] : List Sp)) (Mono.note_fin (by simp [Mono.opened, *]) rfl (by assumption) _ (by simp [Mono.put, *]))⟩)

end Go.Proofs.Ytghhjhjpccipaaa
