/-
  Walks, printed by a program of mine (lk.py): each function meets its contract.
-/
import Derived.KernelRfl
import Derived.Test.YtnkhmbbnabejhaaGreatDoorRX6
namespace Go.Proofs.YtnkhmbbnabejhaaGreatDoor
open Go Go.LK Go.Proofs.Tryz
set_option linter.unusedSimpArgs false

set_option maxRecDepth 100000 in
theorem ld_Read (lv : Value) (l : List Ev) (hl : l.length ≤ 80000) : Tri prog 37 #[lv] [rd lv 7 (l.map Ev.cells)] [] (fun v L' => ∃ V', v = .tuple #[V', .int .i64 (Ld.read l).2.1, .int .i64 (Ld.read l).2.2] ∧ L' = [row V' 111 8 ((Ld.read l).1.map Ft.cells)]) := by
 refine Tri.enter (args := [lv]) (body := _) 29 func37 rfl ntmps37 rfl ?_
 intro w0
 refine J.seq <| J.region <| O.a rfl rfl <| O.a rfl rfl <| O.a rfl rfl <| O.nil <| J.seq <| J.region <| O.l (Lo.makeMap encR 2) rfl ?_
 rintro _ _ ⟨b1, rfl, rfl⟩
 refine O.l (Lo.call [] (by exact call62) rfl ld_rules [] [0] (by decide) rfl [mp b1 encR 2 (([] : List (List Int × Int)).map fun p => (p.1, Value.int .i64 p.2))] rfl RoOk.nil) rfl ?_
 rintro _ _ ⟨_, ⟨b2, rfl, rfl⟩, rfl⟩
 refine O.p (Pu.build [(1, .map (some b1)), (2, .map (some b2))] [Value.slice none 0 0, .map (some b1), .map (some b2)] #[(0, 1), (1, 1), (2, 1)] runUnderlying105 zeroValue105 (places105 underlying105) rfl (by kernel_rfl)) rfl <| O.l (Lo.box [Value.slice none 0 0, .map (some b1), .map (some b2)] rfl rfl) rfl ?_
 rintro _ _ ⟨g4, rfl, rfl⟩
 refine O.a rfl rfl <| O.nil <| J.seq <| J.seq <| J.region <| O.m rfl rfl <| O.q (Qt.lenM runUnderlying32 rfl (Src.ro 0 rfl)) rfl <| O.m rfl rfl <| O.nil <| J.block <| J.nilRow 111 8 <| J.loop (X := Nat × Value × List Ft × (List (List Int × Int))) (fun ξ => ξ.1 ≤ l.length ∧ Ld.readU l ξ.1 = some ξ.2.2.1 ∧ Ld.Fits ξ.2.2.2 ξ.2.2.1 ∧ ξ.2.2.1.length ≤ ξ.1) (fun ξ => [(5, .pointer (some ⟨g4, 0, none⟩)), (12, lv), (13, .int .i64 (l.length : Int)), (14, .int .i64 (ξ.1 : Int))]) (fun ξ => [var g4 [ξ.2.1, .map (some b1), .map (some b2)] 105, row ξ.2.1 111 8 (ξ.2.2.1.map Ft.cells), mp b1 encR 2 (ξ.2.2.2.map fun p => (p.1, Value.int .i64 p.2)), mp b2 encI 1 ruleM]) (fun ξ => l.length - ξ.1) ⟨0, Value.slice none 0 0, [], []⟩ (show 0 ≤ l.length ∧ Ld.readU l 0 = some ([]) ∧ Ld.Fits ([]) ([]) ∧ ([]).length ≤ 0 from ⟨by omega, rfl, Ld.fits_nil, by simp⟩) ⟨rfl, rfl, rfl, (congrArg (fun z => some (Value.int .i64 z)) (by first | rfl | omega : (0 : Int) = (0 : Int))), trivial⟩ [1, 0, 3, 2] (by decide) rfl ?_
 rintro ⟨k, V, out, pm⟩ hq5
 obtain ⟨hk, hst, hfit, hlen⟩ : k ≤ l.length ∧ Ld.readU l k = some out ∧ Ld.Fits pm out ∧ out.length ≤ k := hq5
 show J _ _ [(5, .pointer (some ⟨g4, 0, none⟩)), (12, lv), (13, .int .i64 (l.length : Int)), (14, .int .i64 (k : Int))] [var g4 [V, .map (some b1), .map (some b2)] 105, row V 111 8 (out.map Ft.cells), mp b1 encR 2 (pm.map fun p => (p.1, Value.int .i64 p.2)), mp b2 encI 1 ruleM]
 refine J.seq <| J.region <| O.p (Pu.lss rfl rfl) rfl <| O.nil <| J.seq ?_
 refine J.cond rfl (fun h6 => ?_) (fun h6 => ?_)
 ·
  have p7 := of_decide_eq_true h6
  refine J.skip <| J.seq <| J.block <| J.seq <| J.region <| O.m rfl rfl ?_
  obtain ⟨e8, he8⟩ : ∃ x_, l[k]? = some x_ := ⟨_, List.getElem?_eq_getElem (by first | omega | (simp only [List.length_append, List.length_cons, List.length_nil, List.length_set]; omega))⟩
  refine O.q (Qt.idxM runUnderlying32 sizeOf47 rfl (Src.ro 0 rfl) rfl (by first | omega | (simp only [List.length_append, List.length_cons, List.length_nil, List.length_set]; omega)) (by first | omega | (simp only [List.length_append, List.length_cons, List.length_nil, List.length_set]; omega))) rfl <| O.q (Qt.ld rfl (Cel.eltM (Src.ro 0 rfl) he8) (o := (voff lv + k * 7)) (off := 0) (by omega) (Cut.agg [.int .i64 e8.kind, .int .i64 e8.tick, .int .i64 e8.s, .int .i64 e8.id, .int .i64 e8.code, .int .i64 e8.a, .int .i64 e8.b] isAgg47 sizeOf47 rfl rfl)) rfl <| O.l (Lo.alloc [.int .i64 0, .int .i64 0, .int .i64 0, .int .i64 0, .int .i64 0, .int .i64 0, .int .i64 0] (by exact zeroValue47) rfl) rfl ?_
  rintro _ _ ⟨g9, rfl, rfl⟩
  refine O.a rfl rfl <| O.l0 (Lo.store 0 (vs := [.int .i64 e8.kind, .int .i64 e8.tick, .int .i64 e8.s, .int .i64 e8.id, .int .i64 e8.code, .int .i64 e8.a, .int .i64 e8.b]) [.int .i64 e8.kind, .int .i64 e8.tick, .int .i64 e8.s, .int .i64 e8.id, .int .i64 e8.code, .int .i64 e8.a, .int .i64 e8.b] rfl rfl rfl (by exact sizeOf47) rfl rfl rfl rfl rfl) ?_
  rintro _ _ rfl
  refine O.nil <| J.seq <| J.region <| O.m rfl rfl <| O.q (Qt.ld rfl (Cel.var 0 rfl) (o := 0) (off := 0) rfl (Cut.agg [.int .i64 e8.kind, .int .i64 e8.tick, .int .i64 e8.s, .int .i64 e8.id, .int .i64 e8.code, .int .i64 e8.a, .int .i64 e8.b] isAgg47 sizeOf47 rfl rfl)) rfl <| O.l (Lo.call [.pointer (some ⟨g4, 0, none⟩), .agg #[.int .i64 e8.kind, .int .i64 e8.tick, .int .i64 e8.s, .int .i64 e8.id, .int .i64 e8.code, .int .i64 e8.a, .int .i64 e8.b]] (by exact call63) rfl (ld_note g4 b1 b2 V out pm e8 hfit (by omega)) [1, 2, 3, 4] [0] (by decide) rfl [var g9 [.int .i64 e8.kind, .int .i64 e8.tick, .int .i64 e8.s, .int .i64 e8.id, .int .i64 e8.code, .int .i64 e8.a, .int .i64 e8.b] 47] rfl RoOk.nil) rfl ?_
  rintro _ _ ⟨_, ⟨V10, pm11, o12, rfl, ho13, hf14, rfl⟩, rfl⟩
  refine O.p (Pu.not rfl) rfl <| O.nil ?_
  refine J.cond rfl (fun h16 => ?_) (fun h16 => ?_)
  ·
   have h17 : ((Ld.step out e8).isSome) = false := not_flip h16
   refine J.seq <| J.region <| O.m rfl rfl <| O.a rfl rfl <| O.a rfl rfl <| O.a rfl rfl <| O.nil <| J.nilRow 111 8 ?_
   exact J.ret (Fin.ret (rs := [.tmp 2, .tmp 3, .tmp 4]) rfl [_, _, _] ⟨rfl, rfl, rfl, trivial⟩ [0] (by decide) [row (Value.slice none 0 0) 111 8 (([] : List Ft).map Ft.cells)] rfl ⟨Value.slice none 0 0, (by rw [Ld.read_at hst ‹_› (Ld.step_gone ‹_›)]; rfl), (by rw [Ld.read_at hst ‹_› (Ld.step_gone ‹_›)])⟩)
  ·
   have h18 : ((Ld.step out e8).isSome) = true := not_flip h16
   refine J.skip <| J.blk <| J.region <| O.p (Pu.add' rfl rfl (by first | omega | (simp only [List.length_append, List.length_cons, List.length_nil, List.length_set]; omega))) rfl <| O.m rfl rfl <| O.nil ?_
   exact J.lp ⟨k + 1, V10, o12, pm11⟩ (show (k + 1) ≤ l.length ∧ Ld.readU l (k + 1) = some o12 ∧ Ld.Fits pm11 o12 ∧ o12.length ≤ (k + 1) from ⟨by omega, (by rw [Ld.readU_succ hst ‹_›]; exact Ld.step_get ‹_› ho13), hf14, (by have := Ld.step_len (Ld.step_get ‹_› ho13); omega)⟩) (show l.length - (k + 1) < l.length - k from (by first | omega | (simp only [List.length_append, List.length_cons, List.length_nil, List.length_set]; omega))) ⟨rfl, rfl, rfl, (congrArg (fun z => some (Value.int .i64 z)) (by first | rfl | omega : ((k : Int) + 1 : Int) = ((k + 1) : Int))), trivial⟩ [0, 1, 2, 3] (by decide) rfl
 ·
  have p19 := of_decide_eq_false h6
  refine J.exit _ rfl <| J.seq <| J.region <| O.m rfl rfl <| O.p (Pu.nilCheck rfl) rfl <| O.p (Pu.fieldAddr (off' := 0) runUnderlying105 rfl sizeOf66 rfl rfl rfl) rfl <| O.q (Qt.ld rfl (Cel.var 0 rfl) (o := 0) (off := 0) rfl (Cut.one isAgg66 rfl)) rfl <| O.a rfl rfl <| O.a rfl rfl <| O.a rfl rfl <| O.nil ?_
  exact J.ret (Fin.ret (rs := [.tmp 2, .tmp 3, .tmp 4]) rfl [_, _, _] ⟨rfl, rfl, rfl, trivial⟩ [1] (by decide) [row V 111 8 (out.map Ft.cells)] rfl ⟨V, (by have hk2 : k = l.length := (by omega); subst hk2; rw [Ld.read_all hst]; rfl), (by have hk2 : k = l.length := (by omega); subst hk2; rw [Ld.read_all hst])⟩)

set_option maxRecDepth 100000 in
theorem r41_last (fv : Value) (l : List Ft) (s id : Int) (hl : l.length ≤ 100000) : Tri prog 67 #[fv, .int .i64 s, .int .i64 id] [rd fv 8 (l.map Ft.cells)] [] (fun v L' => v = .int .i64 (Ld.lastZ l s id) ∧ L' = []) := by
 refine Tri.enter (args := [fv, .int .i64 s, .int .i64 id]) (body := _) 32 func67 rfl ntmps67 rfl ?_
 intro w0
 refine J.seq <| J.region <| O.a rfl rfl <| O.nil <| J.seq <| J.seq <| J.region <| O.m rfl rfl <| O.q (Qt.lenM runUnderlying66 rfl (Src.ro 0 rfl)) rfl <| O.p (Pu.sub' rfl rfl (by first | omega | (simp only [List.length_append, List.length_cons, List.length_nil, List.length_set]; omega))) rfl <| O.a rfl rfl <| O.nil ?_
 refine J.block ?_
 refine J.loop (X := Int) (fun ξ => -1 ≤ ξ ∧ ξ < l.length ∧ ∀ (i : Nat) (y : Ft), ξ < i → l[i]? = some y → ¬ (y.s = s ∧ y.id = id)) (fun ξ => [(0, fv), (1, .int .i64 s), (2, .int .i64 id), (7, .int .i64 ξ)]) (fun ξ => []) (fun ξ => (ξ + 1).toNat) ((l.length : Int) - 1) (show -1 ≤ ((l.length : Int) - 1) ∧ ((l.length : Int) - 1) < l.length ∧ ∀ (i : Nat) (y : Ft), ((l.length : Int) - 1) < i → l[i]? = some y → ¬ (y.s = s ∧ y.id = id) from ⟨by omega, by omega, fun i y h1 h2 => absurd (List.getElem?_eq_some_iff.1 h2).1 (by omega)⟩) ⟨rfl, rfl, rfl, rfl, trivial⟩ [] (by decide) rfl ?_
 rintro j hq1
 obtain ⟨hj0, hj1, hno⟩ : -1 ≤ j ∧ j < l.length ∧ ∀ (i : Nat) (y : Ft), j < i → l[i]? = some y → ¬ (y.s = s ∧ y.id = id) := hq1
 show J _ _ [(0, fv), (1, .int .i64 s), (2, .int .i64 id), (7, .int .i64 j)] []
 refine J.seq <| J.seq <| J.region <| O.m rfl rfl <| O.p (Pu.geq rfl rfl) rfl <| O.nil ?_
 refine J.cond rfl (fun h2 => ?_) (fun h2 => ?_)
 ·
  have p3 := of_decide_eq_true h2
  refine J.skip <| J.seq <| J.block <| J.seq <| J.region <| O.m rfl rfl <| O.m rfl rfl ?_
  obtain ⟨e4, he4⟩ : ∃ x_, l[(j).toNat]? = some x_ := ⟨_, List.getElem?_eq_getElem (by first | omega | (simp only [List.length_append]; omega))⟩
  refine O.q (Qt.idxM runUnderlying66 sizeOf111 rfl (Src.ro 0 rfl) rfl (by first | omega | (simp only [List.length_append]; omega)) (by first | omega | (simp only [List.length_append]; omega))) rfl <| O.p (Pu.fieldAddr (off' := voff fv + (j).toNat * 8 + 0) runUnderlying111 rfl sizeOf3 rfl rfl rfl) rfl <| O.q (Qt.ld rfl (Cel.eltM (Src.ro 0 rfl) he4) (o := (voff fv + ((j).toNat) * 8)) (off := 0) (by omega) (Cut.one isAgg3 rfl)) rfl <| O.m rfl rfl <| O.p (Pu.eql rfl rfl) rfl <| O.m rfl rfl ?_
  refine by_bool (decide (e4.s = s)) (fun h5 => ?_) (fun h5 => ?_)
  ·
   have p6 := of_decide_eq_true h5
   refine O.gq (t := 22) rfl rfl h5 rfl (Pu.qt (Pu.move rfl)) rfl <| O.gq (t := 22) rfl rfl h5 rfl (Pu.qt (Pu.move rfl)) rfl <| O.gq (t := 22) rfl rfl h5 rfl (Qt.idxM runUnderlying66 sizeOf111 rfl (Src.ro 0 rfl) rfl (by first | omega | (simp only [List.length_append]; omega)) (by first | omega | (simp only [List.length_append]; omega))) rfl <| O.gq (t := 22) rfl rfl h5 rfl (Pu.qt (Pu.fieldAddr (off' := voff fv + (j).toNat * 8 + 1) runUnderlying111 rfl sizeOf3 rfl rfl rfl)) rfl <| O.gq (t := 22) rfl rfl h5 rfl (Qt.ld rfl (Cel.eltM (Src.ro 0 rfl) he4) (o := (voff fv + ((j).toNat) * 8)) (off := 1) (by omega) (Cut.one isAgg3 rfl)) rfl <| O.gq (t := 22) rfl rfl h5 rfl (Pu.qt (Pu.move rfl)) rfl <| O.gq (t := 22) rfl rfl h5 rfl (Pu.qt (Pu.eql rfl rfl)) rfl <| O.p (Pu.pickT rfl h5 rfl) rfl <| O.nil ?_
   refine J.cond rfl (fun h7 => ?_) (fun h7 => ?_)
   ·
    have p8 := of_decide_eq_true h7
    refine J.seq <| J.region <| O.m rfl rfl <| O.a rfl rfl <| O.nil ?_
    exact J.ret (Fin.ret (rs := [.tmp 6]) rfl [_] ⟨rfl, trivial⟩ [] (by decide) [] rfl ⟨(by simp only [vOf]; rw [Ld.lastZ_at (by omega) ‹_› (by simp_all) (by simp_all) hno]), rfl⟩)
   ·
    have p9 := of_decide_eq_false h7
    refine J.skip <| J.blk <| J.region <| O.m rfl rfl <| O.p (Pu.sub' rfl rfl (by first | omega | (simp only [List.length_append, List.length_cons, List.length_nil, List.length_set]; omega))) rfl <| O.a rfl rfl <| O.nil ?_
    exact J.lp (j - 1) (show -1 ≤ (j - 1) ∧ (j - 1) < l.length ∧ ∀ (i : Nat) (y : Ft), (j - 1) < i → l[i]? = some y → ¬ (y.s = s ∧ y.id = id) from ⟨by omega, by omega, Ld.last_prev (by omega) hno ‹_› (by simp [*])⟩) (show ((j - 1) + 1).toNat < (j + 1).toNat from (by first | omega | (simp only [List.length_append]; omega))) ⟨rfl, rfl, rfl, rfl, trivial⟩ [] (by decide) rfl
  ·
   have p10 := of_decide_eq_false h5
   refine O.gskip (t := 22) rfl rfl (no_bool (by rw [h5]; decide)) rfl rfl <| O.gskip (t := 22) rfl rfl (no_bool (by rw [h5]; decide)) rfl rfl <| O.gskip (t := 22) rfl rfl (no_bool (by rw [h5]; decide)) rfl rfl <| O.gskip (t := 22) rfl rfl (no_bool (by rw [h5]; decide)) rfl rfl <| O.gskip (t := 22) rfl rfl (no_bool (by rw [h5]; decide)) rfl rfl <| O.gskip (t := 22) rfl rfl (no_bool (by rw [h5]; decide)) rfl rfl <| O.gskip (t := 22) rfl rfl (no_bool (by rw [h5]; decide)) rfl rfl <| O.p (Pu.pickF rfl h5 rfl) rfl <| O.nil <| J.condF rfl rfl <| J.skip <| J.blk ?_
   refine J.region <| O.m rfl rfl <| O.p (Pu.sub' rfl rfl (by first | omega | (simp only [List.length_append, List.length_cons, List.length_nil, List.length_set]; omega))) rfl <| O.a rfl rfl <| O.nil ?_
   exact J.lp (j - 1) (show -1 ≤ (j - 1) ∧ (j - 1) < l.length ∧ ∀ (i : Nat) (y : Ft), (j - 1) < i → l[i]? = some y → ¬ (y.s = s ∧ y.id = id) from ⟨by omega, by omega, Ld.last_prev (by omega) hno ‹_› (by simp [*])⟩) (show ((j - 1) + 1).toNat < (j + 1).toNat from (by first | omega | (simp only [List.length_append]; omega))) ⟨rfl, rfl, rfl, rfl, trivial⟩ [] (by decide) rfl
 ·
  have p11 := of_decide_eq_false h2
  refine J.exit _ rfl <| J.seq <| J.region <| O.a rfl rfl <| O.nil ?_
  exact J.ret (Fin.ret (rs := [.tmp 6]) rfl [_] ⟨rfl, trivial⟩ [] (by decide) [] rfl ⟨(by simp only [vOf]; rw [Ld.lastZ_none (fun i y h => hno i y (by omega) h)]), rfl⟩)

end Go.Proofs.YtnkhmbbnabejhaaGreatDoor
