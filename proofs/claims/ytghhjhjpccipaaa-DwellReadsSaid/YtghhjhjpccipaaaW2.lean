/-
  Walks, printed by a program of mine (lk.py): each function meets its contract.
-/
import Derived.KernelRfl
import Derived.Test.YtghhjhjpccipaaaW1
namespace Go.Proofs.Ytghhjhjpccipaaa
open Go Go.LK

set_option maxRecDepth 100000 in
theorem mono_runs (s : Int) (lv : Value) (l : List Ev) (hl : l.length ≤ 100000) : Tri Try.prog 15 #[.int .i64 s, lv] [rd lv 7 (l.map Ev.cells)] [] (fun v L' => L' = [row v 25 4 ((Mono.runs s l).map Run.cells)]) := by
  refine Tri.enter (args := [.int .i64 s, lv]) (body := _) 35 Try.func15 rfl Try.ntmps15 rfl ?_
  intro w0
  refine J.seq ?_
  refine J.region ?_
  refine O.p (Pu.assign rfl) rfl ?_
  refine O.nil ?_
  refine J.scope ?_
  refine J.seq ?_
  refine J.region ?_
  refine O.l (Lo.alloc [Value.slice none 0 0] (by exact Try.zeroValue36) rfl) rfl ?_
  rintro _ _ ⟨g1, rfl, rfl⟩
  refine O.nil ?_
  refine J.seq ?_
  refine J.region ?_
  refine O.l (Lo.alloc [.bool false] (by exact Try.zeroValue4) rfl) rfl ?_
  rintro _ _ ⟨g2, rfl, rfl⟩
  refine O.l0 (Lo.store 0 (vs := [.bool false]) [.bool false] rfl rfl rfl (by exact Try.sizeOf4) rfl rfl rfl rfl rfl) ?_
  rintro _ _ rfl
  refine O.nil ?_
  refine J.seq ?_
  refine J.region ?_
  refine O.p (Pu.makeFunc [.pointer (some ⟨g2, 0, none⟩), .pointer (some ⟨g1, 0, none⟩)] rfl) rfl ?_
  refine O.p (Pu.assign rfl) rfl ?_
  refine O.nil ?_
  refine J.seq ?_
  refine J.label ?_
  refine J.seq ?_
  refine J.seq ?_
  refine J.region ?_
  refine O.p (Pu.move rfl) rfl ?_
  refine O.q (Qt.lenM Try.runUnderlying22 rfl (Src.ro 0 rfl)) rfl ?_
  refine O.p (Pu.move rfl) rfl ?_
  refine O.nil ?_
  refine J.block ?_
  refine J.nilRow 25 4 ?_
  refine J.loop (X := Nat × Bool × Value × List Run) (fun x => x.1 ≤ l.length ∧ (x.2.2.2, x.2.1) = upI (Mono.runF s) ([], false) l x.1 ∧ (x.2.1 = true → x.2.2.2 ≠ []) ∧ x.2.2.2.length ≤ x.1) (fun x => [(0, .int .i64 s), (4, Value.slice none 0 0), (5, .pointer (some ⟨g1, 0, none⟩)), (6, .pointer (some ⟨g2, 0, none⟩)), (7, .func (.func 53) #[] #[.pointer (some ⟨g2, 0, none⟩), .pointer (some ⟨g1, 0, none⟩)]), (11, lv), (12, .int .i64 (l.length : Int)), (13, .int .i64 (x.1 : Int))]) (fun x => [var g1 [x.2.2.1] 36, var g2 [.bool x.2.1] 4, row x.2.2.1 25 4 (x.2.2.2.map Run.cells)]) (fun x => l.length - x.1) ⟨0, false, Value.slice none 0 0, []⟩ ⟨by omega, rfl, by simp, by simp⟩ ⟨rfl, rfl, rfl, rfl, rfl, rfl, rfl, (congrArg (fun z => some (Value.int .i64 z)) (by omega : (0 : Int) = (0 : Int))), trivial⟩ [2, 1, 0] (by decide) rfl ?_
  rintro ⟨k, b, V, out⟩ hq3
  obtain ⟨hk, hst, hne, hlen⟩ : k ≤ l.length ∧ (out, b) = upI (Mono.runF s) ([], false) l k ∧ (b = true → out ≠ []) ∧ out.length ≤ k := hq3
  refine J.seq ?_
  refine J.region ?_
  refine O.p (Pu.lss rfl rfl) rfl ?_
  refine O.nil ?_
  refine J.seq ?_
  refine J.cond rfl (fun h4 => ?_) (fun h4 => ?_)
  ·
    have p5 := of_decide_eq_true h4
    refine J.skip ?_
    refine J.seq ?_
    refine J.block ?_
    refine J.seq ?_
    refine J.region ?_
    refine O.p (Pu.move rfl) rfl ?_
    obtain ⟨e6, he6⟩ : ∃ e, l[k]? = some e := ⟨_, List.getElem?_eq_getElem (by omega)⟩
    refine O.q (Qt.idxM Try.runUnderlying22 Try.sizeOf93 rfl (Src.ro 0 rfl) rfl (by omega) (by omega)) rfl ?_
    refine O.q (Qt.ld rfl (Cel.eltM (Src.ro 0 rfl) he6) (o := (voff lv + k * 7)) (off := 0) (by omega) (Cut.agg [.int .i64 e6.kind, .int .i64 e6.tick, .int .i64 e6.s, .int .i64 e6.id, .int .i64 e6.code, .int .i64 e6.a, .int .i64 e6.b] Try.isAgg93 Try.sizeOf93 rfl rfl)) rfl ?_
    refine O.l (Lo.alloc [.int .i64 0, .int .i64 0, .int .i64 0, .int .i64 0, .int .i64 0, .int .i64 0, .int .i64 0] (by exact Try.zeroValue93) rfl) rfl ?_
    rintro _ _ ⟨g7, rfl, rfl⟩
    refine O.p (Pu.assign rfl) rfl ?_
    refine O.l0 (Lo.store 0 (vs := [.int .i64 e6.kind, .int .i64 e6.tick, .int .i64 e6.s, .int .i64 e6.id, .int .i64 e6.code, .int .i64 e6.a, .int .i64 e6.b]) [.int .i64 e6.kind, .int .i64 e6.tick, .int .i64 e6.s, .int .i64 e6.id, .int .i64 e6.code, .int .i64 e6.a, .int .i64 e6.b] rfl rfl rfl (by exact Try.sizeOf93) rfl rfl rfl rfl rfl) ?_
    rintro _ _ rfl
    refine O.nil ?_
    refine J.block ?_
    refine J.seq ?_
    refine J.region ?_
    refine O.p (Pu.fieldAddr (off' := 2) Try.runUnderlying93 rfl Try.sizeOf3 rfl rfl rfl) rfl ?_
    refine O.q (Qt.ld rfl (Cel.var 0 rfl) (o := 0) (off := 2) rfl (Cut.one Try.isAgg3 rfl)) rfl ?_
    refine O.p (Pu.move rfl) rfl ?_
    refine O.p (Pu.neq rfl rfl) rfl ?_
    refine O.p (Pu.assign rfl) rfl ?_
    refine O.nil ?_
    refine J.cond rfl (fun h8 => ?_) (fun h8 => ?_)
    ·
      have p9 := of_decide_eq_true h8
      refine J.exit _ rfl ?_
      refine J.region ?_
      refine O.p (Pu.add' rfl rfl (by omega)) rfl ?_
      refine O.p (Pu.move rfl) rfl ?_
      refine O.nil ?_
      exact J.lp ⟨k + 1, b, V, out⟩ (show (k + 1) ≤ l.length ∧ (out, b) = upI (Mono.runF s) ([], false) l (k + 1) ∧ (b = true → out ≠ []) ∧ out.length ≤ (k + 1) from ⟨by omega, by rw [upI_succ (by assumption), ← hst]; simp [Mono.runF, *], by first | exact fun _ => Mono.note_ne hne | exact hne | simp, by first | omega | exact Nat.le_trans Mono.note_len (by omega)⟩) (by simp only []; omega) ⟨rfl, rfl, rfl, rfl, rfl, rfl, rfl, (congrArg (fun z => some (Value.int .i64 z)) (by omega : ((k : Int) + 1 : Int) = ((k + 1) : Int))), trivial⟩ [1, 2, 3] (by decide) rfl
    ·
      have p10 := of_decide_eq_false h8
      refine J.seq ?_
      refine J.region ?_
      refine O.q (Qt.ld rfl (Cel.var 0 rfl) (o := 0) (off := 0) rfl (Cut.agg [.int .i64 e6.kind, .int .i64 e6.tick, .int .i64 e6.s, .int .i64 e6.id, .int .i64 e6.code, .int .i64 e6.a, .int .i64 e6.b] Try.isAgg93 Try.sizeOf93 rfl rfl)) rfl ?_
      refine O.l (Lo.call [.agg #[.int .i64 e6.kind, .int .i64 e6.tick, .int .i64 e6.s, .int .i64 e6.id, .int .i64 e6.code, .int .i64 e6.a, .int .i64 e6.b]] (by exact Try.call55) rfl (mono_ends e6) [] [0, 1, 2, 3] (by decide) rfl _ rfl RoOk.nil) rfl ?_
      rintro _ _ ⟨_, ⟨rfl, rfl⟩, rfl⟩
      refine O.p (Pu.assign rfl) rfl ?_
      refine O.nil ?_
      refine J.cond rfl (fun h12 => ?_) (fun h12 => ?_)
      ·
        refine J.region ?_
        refine O.l0 (Lo.store 2 (vs := [.bool false]) [.bool false] rfl rfl rfl (by exact Try.sizeOf4) rfl rfl rfl rfl rfl) ?_
        rintro _ _ rfl
        refine O.nil ?_
        refine J.blk ?_
        refine J.blk ?_
        refine J.region ?_
        refine O.p (Pu.add' rfl rfl (by omega)) rfl ?_
        refine O.p (Pu.move rfl) rfl ?_
        refine O.nil ?_
        exact J.lp ⟨k + 1, false, V, out⟩ (show (k + 1) ≤ l.length ∧ (out, false) = upI (Mono.runF s) ([], false) l (k + 1) ∧ (false = true → out ≠ []) ∧ out.length ≤ (k + 1) from ⟨by omega, by rw [upI_succ (by assumption), ← hst]; simp [Mono.runF, *], by first | exact fun _ => Mono.note_ne hne | exact hne | simp, by first | omega | exact Nat.le_trans Mono.note_len (by omega)⟩) (by simp only []; omega) ⟨rfl, rfl, rfl, rfl, rfl, rfl, rfl, (congrArg (fun z => some (Value.int .i64 z)) (by omega : ((k : Int) + 1 : Int) = ((k + 1) : Int))), trivial⟩ [1, 2, 3] (by decide) rfl
      ·
        refine J.seq ?_
        refine J.region ?_
        refine O.q (Qt.ld rfl (Cel.var 0 rfl) (o := 0) (off := 0) rfl (Cut.agg [.int .i64 e6.kind, .int .i64 e6.tick, .int .i64 e6.s, .int .i64 e6.id, .int .i64 e6.code, .int .i64 e6.a, .int .i64 e6.b] Try.isAgg93 Try.sizeOf93 rfl rfl)) rfl ?_
        refine O.l (Lo.call [.agg #[.int .i64 e6.kind, .int .i64 e6.tick, .int .i64 e6.s, .int .i64 e6.id, .int .i64 e6.code, .int .i64 e6.a, .int .i64 e6.b]] (by exact Try.call51) rfl (mono_decision e6) [] [0, 1, 2, 3] (by decide) rfl _ rfl RoOk.nil) rfl ?_
        rintro _ _ ⟨_, ⟨rfl, rfl⟩, rfl⟩
        refine O.p (Pu.assign rfl) rfl ?_
        refine O.nil ?_
        refine J.cond rfl (fun h14 => ?_) (fun h14 => ?_)
        ·
          refine J.region ?_
          refine O.p (Pu.move rfl) rfl ?_
          refine O.p (Pu.move rfl) rfl ?_
          refine O.q (Qt.ld rfl (Cel.var 0 rfl) (o := 0) (off := 0) rfl (Cut.agg [.int .i64 e6.kind, .int .i64 e6.tick, .int .i64 e6.s, .int .i64 e6.id, .int .i64 e6.code, .int .i64 e6.a, .int .i64 e6.b] Try.isAgg93 Try.sizeOf93 rfl rfl)) rfl ?_
          refine O.l (Lo.callV (vs := [.int .i64 (k : Int), .agg #[.int .i64 e6.kind, .int .i64 e6.tick, .int .i64 e6.s, .int .i64 e6.id, .int .i64 e6.code, .int .i64 e6.a, .int .i64 e6.b]]) (caps := [.pointer (some ⟨g2, 0, none⟩), .pointer (some ⟨g1, 0, none⟩)]) (by exact Try.call53) rfl rfl (mono_note (k : Int) e6 g2 g1 b V out hne (by omega)) [2, 1, 3] [0] (by decide) rfl _ rfl RoOk.nil) rfl ?_
          rintro _ _ ⟨_, ⟨rfl, V15, rfl⟩, rfl⟩
          refine O.nil ?_
          refine J.blk ?_
          refine J.blk ?_
          refine J.region ?_
          refine O.p (Pu.add' rfl rfl (by omega)) rfl ?_
          refine O.p (Pu.move rfl) rfl ?_
          refine O.nil ?_
          exact J.lp ⟨k + 1, true, V15, Mono.note out b (k : Int) e6⟩ (show (k + 1) ≤ l.length ∧ ((Mono.note out b (k : Int) e6), true) = upI (Mono.runF s) ([], false) l (k + 1) ∧ (true = true → (Mono.note out b (k : Int) e6) ≠ []) ∧ (Mono.note out b (k : Int) e6).length ≤ (k + 1) from ⟨by omega, by rw [upI_succ (by assumption), ← hst]; simp [Mono.runF, *], by first | exact fun _ => Mono.note_ne hne | exact hne | simp, by first | omega | exact Nat.le_trans Mono.note_len (by omega)⟩) (by simp only []; omega) ⟨rfl, rfl, rfl, rfl, rfl, rfl, rfl, (congrArg (fun z => some (Value.int .i64 z)) (by omega : ((k : Int) + 1 : Int) = ((k + 1) : Int))), trivial⟩ [1, 0, 2] (by decide) rfl
        ·
          refine J.skip ?_
          refine J.blk ?_
          refine J.blk ?_
          refine J.region ?_
          refine O.p (Pu.add' rfl rfl (by omega)) rfl ?_
          refine O.p (Pu.move rfl) rfl ?_
          refine O.nil ?_
          exact J.lp ⟨k + 1, b, V, out⟩ (show (k + 1) ≤ l.length ∧ (out, b) = upI (Mono.runF s) ([], false) l (k + 1) ∧ (b = true → out ≠ []) ∧ out.length ≤ (k + 1) from ⟨by omega, by rw [upI_succ (by assumption), ← hst]; simp [Mono.runF, *], by first | exact fun _ => Mono.note_ne hne | exact hne | simp, by first | omega | exact Nat.le_trans Mono.note_len (by omega)⟩) (by simp only []; omega) ⟨rfl, rfl, rfl, rfl, rfl, rfl, rfl, (congrArg (fun z => some (Value.int .i64 z)) (by omega : ((k : Int) + 1 : Int) = ((k + 1) : Int))), trivial⟩ [1, 2, 3] (by decide) rfl
  ·
    have p17 := of_decide_eq_false h4
    refine J.exit _ rfl ?_
    refine J.seq ?_
    refine J.region ?_
    refine O.q (Qt.ld rfl (Cel.var 0 rfl) (o := 0) (off := 0) rfl (Cut.one Try.isAgg36 rfl)) rfl ?_
    refine O.p (Pu.assign rfl) rfl ?_
    refine O.nil ?_
    exact J.ret (Fin.ret (rs := [.tmp 4]) rfl [_] ⟨rfl, trivial⟩ [2] (by decide) [row V 25 4 (out.map Run.cells)] rfl (congrArg (fun o => ([row V 25 4 (o.map Run.cells)] : List Sp)) (show out = Mono.runs s l from (by have hk2 : k = l.length := (by omega); rw [Mono.runs, ← hk2, ← hst]))))

end Go.Proofs.Ytghhjhjpccipaaa
