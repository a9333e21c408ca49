/-
  Walks, printed by a program of mine (lk.py): each function meets its contract.
-/
import Derived.KernelRfl
import Derived.Test.YtnkhmbbnabejhaaVX2
import Derived.Test.YtnkhmbbnabejhaaWait1
namespace Go.Proofs.Ytnkhmbbnabejhaa
open Go Go.LK
set_option linter.unusedSimpArgs false

set_option maxRecDepth 100000 in
theorem r34_Job (lv : Value) (l : List Pr) (c : Int) (hl : l.length ≤ 100000) : Tri Try.prog 25 #[lv, .int .i64 c] [rd lv 2 (l.map Pr.cells)] [] (fun v L' => v = .tuple #[.int .i64 ((Wt.jobOf l c).getD 0), .bool (Wt.jobOf l c).isSome] ∧ L' = []) := by
  refine Tri.enter (args := [lv, .int .i64 c]) (body := _) 25 Try.func25 rfl Try.ntmps25 rfl ?_
  intro w0
  refine J.seq ?_
  refine J.region ?_
  refine O.p (Pu.assign rfl) rfl ?_
  refine O.p (Pu.assign rfl) rfl ?_
  refine O.nil ?_
  refine J.seq ?_
  refine J.seq ?_
  refine J.region ?_
  refine O.p (Pu.assign rfl) rfl ?_
  refine O.nil ?_
  refine J.block ?_
  refine J.loop (X := Nat) (fun ξ => ξ ≤ l.length ∧ Wt.jobOf l c = Wt.jobOf (l.drop ξ) c) (fun ξ => [(0, lv), (1, .int .i64 c), (6, .int .i64 (ξ : Int))]) (fun ξ => []) (fun ξ => l.length - ξ) 0 (show 0 ≤ l.length ∧ Wt.jobOf l c = Wt.jobOf (l.drop 0) c from ⟨by omega, rfl⟩) ⟨rfl, rfl, (congrArg (fun z => some (Value.int .i64 z)) (by first | rfl | omega : (0 : Int) = (0 : Int))), trivial⟩ [] (by decide) rfl ?_
  rintro k hq1
  obtain ⟨hk, hno⟩ : k ≤ l.length ∧ Wt.jobOf l c = Wt.jobOf (l.drop k) c := hq1
  show J _ _ [(0, lv), (1, .int .i64 c), (6, .int .i64 (k : Int))] []
  refine J.seq ?_
  refine J.seq ?_
  refine J.region ?_
  refine O.p (Pu.move rfl) rfl ?_
  refine O.p (Pu.move rfl) rfl ?_
  refine O.q (Qt.lenM Try.runUnderlying51 rfl (Src.ro 0 rfl)) rfl ?_
  refine O.p (Pu.lss rfl rfl) rfl ?_
  refine O.nil ?_
  refine J.cond rfl (fun h2 => ?_) (fun h2 => ?_)
  ·
    have p3 := of_decide_eq_true h2
    refine J.skip ?_
    refine J.seq ?_
    refine J.block ?_
    refine J.seq ?_
    refine J.region ?_
    refine O.p (Pu.move rfl) rfl ?_
    refine O.p (Pu.move rfl) rfl ?_
    obtain ⟨e4, he4⟩ : ∃ x_, l[k]? = some x_ := ⟨_, List.getElem?_eq_getElem (by omega)⟩
    refine O.q (Qt.idxM Try.runUnderlying51 Try.sizeOf98 rfl (Src.ro 0 rfl) rfl (by omega) (by omega)) rfl ?_
    refine O.p (Pu.fieldAddr (off' := voff lv + ((k : Int)).toNat * 2 + 0) Try.runUnderlying98 rfl Try.sizeOf3 rfl rfl rfl) rfl ?_
    refine O.q (Qt.ld rfl (Cel.eltM (Src.ro 0 rfl) he4) (o := (voff lv + k * 2)) (off := 0) (by omega) (Cut.one Try.isAgg3 rfl)) rfl ?_
    refine O.p (Pu.move rfl) rfl ?_
    refine O.p (Pu.eql rfl rfl) rfl ?_
    refine O.nil ?_
    refine J.cond rfl (fun h5 => ?_) (fun h5 => ?_)
    ·
      have p6 := of_decide_eq_true h5
      refine J.seq ?_
      refine J.region ?_
      refine O.p (Pu.move rfl) rfl ?_
      refine O.p (Pu.move rfl) rfl ?_
      refine O.q (Qt.idxM Try.runUnderlying51 Try.sizeOf98 rfl (Src.ro 0 rfl) rfl (by omega) (by omega)) rfl ?_
      refine O.p (Pu.fieldAddr (off' := voff lv + ((k : Int)).toNat * 2 + 1) Try.runUnderlying98 rfl Try.sizeOf3 rfl rfl rfl) rfl ?_
      refine O.q (Qt.ld rfl (Cel.eltM (Src.ro 0 rfl) he4) (o := (voff lv + k * 2)) (off := 1) (by omega) (Cut.one Try.isAgg3 rfl)) rfl ?_
      refine O.p (Pu.assign rfl) rfl ?_
      refine O.p (Pu.assign rfl) rfl ?_
      refine O.nil ?_
      exact J.ret (Fin.ret (rs := [.tmp 4, .tmp 5]) rfl [_, _] ⟨rfl, rfl, trivial⟩ [] (by decide) [] rfl ⟨(by rw [Wt.job_hit hno he4 (by assumption)]; rfl), rfl⟩)
    ·
      have p7 := of_decide_eq_false h5
      refine J.skip ?_
      refine J.blk ?_
      refine J.region ?_
      refine O.p (Pu.move rfl) rfl ?_
      refine O.p (Pu.add' rfl rfl (by first | omega | (simp only [List.length_append, List.length_cons, List.length_nil, List.length_set]; omega))) rfl ?_
      refine O.p (Pu.assign rfl) rfl ?_
      refine O.nil ?_
      exact J.lp (k + 1) (show (k + 1) ≤ l.length ∧ Wt.jobOf l c = Wt.jobOf (l.drop (k + 1)) c from ⟨by omega, Wt.job_next hno he4 (by assumption)⟩) (show l.length - (k + 1) < l.length - k from (by omega)) ⟨rfl, rfl, (congrArg (fun z => some (Value.int .i64 z)) (by first | rfl | omega : ((k : Int) + 1 : Int) = ((k + 1) : Int))), trivial⟩ [] (by decide) rfl
  ·
    have p8 := of_decide_eq_false h2
    refine J.exit _ rfl ?_
    refine J.seq ?_
    refine J.region ?_
    refine O.p (Pu.assign rfl) rfl ?_
    refine O.p (Pu.assign rfl) rfl ?_
    refine O.nil ?_
    exact J.ret (Fin.ret (rs := [.tmp 4, .tmp 5]) rfl [_, _] ⟨rfl, rfl, trivial⟩ [] (by decide) [] rfl ⟨(by rw [Wt.job_miss hno (by omega)]; rfl), rfl⟩)

set_option maxRecDepth 100000 in
theorem r34_Without (lv : Value) (l : List Pr) (c : Int) (hl : l.length ≤ 100000) : Tri Try.prog 26 #[lv, .int .i64 c] [rd lv 2 (l.map Pr.cells)] [] (fun v L' => L' = [row v 98 2 ((Wt.without l c).map Pr.cells)]) := by
  refine Tri.enter (args := [lv, .int .i64 c]) (body := _) 28 Try.func26 rfl Try.ntmps26 rfl ?_
  intro w0
  refine J.seq ?_
  refine J.region ?_
  refine O.p (Pu.assign rfl) rfl ?_
  refine O.nil ?_
  refine J.seq ?_
  refine J.region ?_
  refine O.p (Pu.assign rfl) rfl ?_
  refine O.nil ?_
  refine J.seq ?_
  refine J.seq ?_
  refine J.region ?_
  refine O.p (Pu.assign rfl) rfl ?_
  refine O.nil ?_
  refine J.block ?_
  refine J.nilRow 98 2 ?_
  refine J.loop (X := Nat × Value × List Pr) (fun ξ => ξ.1 ≤ l.length ∧ ξ.2.2 = Wt.without (l.take ξ.1) c ∧ ξ.2.2.length ≤ ξ.1) (fun ξ => [(0, lv), (1, .int .i64 c), (4, Value.slice none 0 0), (5, ξ.2.1), (6, .int .i64 (ξ.1 : Int))]) (fun ξ => [row ξ.2.1 98 2 (ξ.2.2.map Pr.cells)]) (fun ξ => l.length - ξ.1) ⟨0, Value.slice none 0 0, []⟩ (show 0 ≤ l.length ∧ ([]) = Wt.without (l.take 0) c ∧ ([]).length ≤ 0 from ⟨by omega, by simp [Wt.without], by simp⟩) ⟨rfl, rfl, rfl, rfl, (congrArg (fun z => some (Value.int .i64 z)) (by first | rfl | omega : (0 : Int) = (0 : Int))), trivial⟩ [0] (by decide) rfl ?_
  rintro ⟨k, V, o⟩ hq1
  obtain ⟨hk, hst, hlen⟩ : k ≤ l.length ∧ o = Wt.without (l.take k) c ∧ o.length ≤ k := hq1
  show J _ _ [(0, lv), (1, .int .i64 c), (4, Value.slice none 0 0), (5, V), (6, .int .i64 (k : Int))] [row V 98 2 (o.map Pr.cells)]
  refine J.seq ?_
  refine J.seq ?_
  refine J.region ?_
  refine O.p (Pu.move rfl) rfl ?_
  refine O.p (Pu.move rfl) rfl ?_
  refine O.q (Qt.lenM Try.runUnderlying51 rfl (Src.ro 0 rfl)) rfl ?_
  refine O.p (Pu.lss rfl rfl) rfl ?_
  refine O.nil ?_
  refine J.cond rfl (fun h2 => ?_) (fun h2 => ?_)
  ·
    have p3 := of_decide_eq_true h2
    refine J.skip ?_
    refine J.seq ?_
    refine J.block ?_
    refine J.seq ?_
    refine J.region ?_
    refine O.p (Pu.move rfl) rfl ?_
    refine O.p (Pu.move rfl) rfl ?_
    obtain ⟨e4, he4⟩ : ∃ x_, l[k]? = some x_ := ⟨_, List.getElem?_eq_getElem (by first | omega | (simp only [List.length_append, List.length_cons, List.length_nil, List.length_take, List.length_drop]; omega))⟩
    refine O.q (Qt.idxM Try.runUnderlying51 Try.sizeOf98 rfl (Src.ro 0 rfl) rfl (by first | omega | (simp only [List.length_append, List.length_cons, List.length_nil, List.length_take, List.length_drop]; omega)) (by first | omega | (simp only [List.length_append, List.length_cons, List.length_nil, List.length_take, List.length_drop]; omega))) rfl ?_
    refine O.p (Pu.fieldAddr (off' := voff lv + ((k : Int)).toNat * 2 + 0) Try.runUnderlying98 rfl Try.sizeOf3 rfl rfl rfl) rfl ?_
    refine O.q (Qt.ld rfl (Cel.eltM (Src.ro 0 rfl) he4) (o := (voff lv + k * 2)) (off := 0) (by omega) (Cut.one Try.isAgg3 rfl)) rfl ?_
    refine O.p (Pu.move rfl) rfl ?_
    refine O.p (Pu.neq rfl rfl) rfl ?_
    refine O.nil ?_
    refine J.cond rfl (fun h5 => ?_) (fun h5 => ?_)
    ·
      have p6 := of_decide_eq_true h5
      refine J.region ?_
      refine O.p (Pu.move rfl) rfl ?_
      refine O.p (Pu.move rfl) rfl ?_
      refine O.p (Pu.move rfl) rfl ?_
      refine O.q (Qt.idxM Try.runUnderlying51 Try.sizeOf98 rfl (Src.ro 0 rfl) rfl (by first | omega | (simp only [List.length_append, List.length_cons, List.length_nil, List.length_take, List.length_drop]; omega)) (by first | omega | (simp only [List.length_append, List.length_cons, List.length_nil, List.length_take, List.length_drop]; omega))) rfl ?_
      refine O.q (Qt.ld rfl (Cel.eltM (Src.ro 0 rfl) he4) (o := (voff lv + k * 2)) (off := 0) (by omega) (Cut.agg [.int .i64 e4.call, .int .i64 e4.job] Try.isAgg98 Try.sizeOf98 rfl rfl)) rfl ?_
      refine O.l (Lo.buildM (s := 2) Pr.cells [e4] [(0, .agg #[.int .i64 e4.call, .int .i64 e4.job])] (by exact Try.runUnderlying51) (by exact Try.sizeOf98) (by exact Try.zeroValue98) rfl rfl rfl (by kernel_rfl) rfl rfl) rfl ?_
      rintro V7 _ rfl
      refine O.l (Lo.appendM (s := 2) 1 (by exact Try.underlying51) (by exact (info98).1) (by exact (info98).2.1) (by exact (info98).2.2.1) (by exact (info98).2.2.2) rfl rfl rfl rfl rfl (Src.row 0 rfl) Pr.one (by first | omega | (simp only [List.length_append, List.length_cons, List.length_nil, List.length_take, List.length_drop]; omega)) (by first | omega | (simp only [List.length_append, List.length_cons, List.length_nil, List.length_take, List.length_drop]; omega))) rfl ?_
      rintro V8 _ rfl
      refine O.p (Pu.assign rfl) rfl ?_
      refine O.nil ?_
      refine J.blk ?_
      refine J.region ?_
      refine O.p (Pu.move rfl) rfl ?_
      refine O.p (Pu.add' rfl rfl (by first | omega | (simp only [List.length_append, List.length_cons, List.length_nil, List.length_set]; omega))) rfl ?_
      refine O.p (Pu.assign rfl) rfl ?_
      refine O.nil ?_
      exact J.lp ⟨k + 1, V8, o ++ ([e4])⟩ (show (k + 1) ≤ l.length ∧ (o ++ ([e4])) = Wt.without (l.take (k + 1)) c ∧ (o ++ ([e4])).length ≤ (k + 1) from ⟨by omega, (by rw [hst]; first | exact (Wt.without_next1 he4 (by assumption)).symm | exact (Wt.without_next0 he4 (by first | assumption | omega)).symm), (by first | omega | (simp only [List.length_append, List.length_cons, List.length_nil]; omega))⟩) (show l.length - (k + 1) < l.length - k from (by first | omega | (simp only [List.length_append, List.length_cons, List.length_nil, List.length_take, List.length_drop]; omega))) ⟨rfl, rfl, rfl, rfl, (congrArg (fun z => some (Value.int .i64 z)) (by first | rfl | omega : ((k : Int) + 1 : Int) = ((k + 1) : Int))), trivial⟩ [1] (by decide) rfl
    ·
      have p9 := of_decide_eq_false h5
      refine J.skip ?_
      refine J.blk ?_
      refine J.region ?_
      refine O.p (Pu.move rfl) rfl ?_
      refine O.p (Pu.add' rfl rfl (by first | omega | (simp only [List.length_append, List.length_cons, List.length_nil, List.length_set]; omega))) rfl ?_
      refine O.p (Pu.assign rfl) rfl ?_
      refine O.nil ?_
      exact J.lp ⟨k + 1, V, o⟩ (show (k + 1) ≤ l.length ∧ o = Wt.without (l.take (k + 1)) c ∧ o.length ≤ (k + 1) from ⟨by omega, (by rw [hst]; first | exact (Wt.without_next1 he4 (by assumption)).symm | exact (Wt.without_next0 he4 (by first | assumption | omega)).symm), (by first | omega | (simp only [List.length_append, List.length_cons, List.length_nil]; omega))⟩) (show l.length - (k + 1) < l.length - k from (by first | omega | (simp only [List.length_append, List.length_cons, List.length_nil, List.length_take, List.length_drop]; omega))) ⟨rfl, rfl, rfl, rfl, (congrArg (fun z => some (Value.int .i64 z)) (by first | rfl | omega : ((k : Int) + 1 : Int) = ((k + 1) : Int))), trivial⟩ [0] (by decide) rfl
  ·
    have p10 := of_decide_eq_false h2
    refine J.exit _ rfl ?_
    refine J.seq ?_
    refine J.region ?_
    refine O.p (Pu.move rfl) rfl ?_
    refine O.p (Pu.assign rfl) rfl ?_
    refine O.nil ?_
    exact J.ret (Fin.ret (rs := [.tmp 4]) rfl [_] ⟨rfl, trivial⟩ [0] (by decide) [row V 98 2 (o.map Pr.cells)] rfl (congrArg (fun (z : List Pr) => ([row V 98 2 (z.map Pr.cells)] : List Sp)) (show o = Wt.without l c from (by rw [hst, List.take_of_length_le (by omega)]))))

set_option maxRecDepth 100000 in
theorem r34_Of (lv : Value) (l : List Pr) (c : Int) (hl : l.length ≤ 100000) : Tri Try.prog 27 #[lv, .int .i64 c] [rd lv 2 (l.map Pr.cells)] [] (fun v L' => L' = [row v 3 1 ((Wt.ofJ l c).map encZ)]) := by
  refine Tri.enter (args := [lv, .int .i64 c]) (body := _) 29 Try.func27 rfl Try.ntmps27 rfl ?_
  intro w0
  refine J.seq ?_
  refine J.region ?_
  refine O.p (Pu.assign rfl) rfl ?_
  refine O.nil ?_
  refine J.seq ?_
  refine J.region ?_
  refine O.p (Pu.assign rfl) rfl ?_
  refine O.nil ?_
  refine J.seq ?_
  refine J.seq ?_
  refine J.region ?_
  refine O.p (Pu.assign rfl) rfl ?_
  refine O.nil ?_
  refine J.block ?_
  refine J.nilRow 3 1 ?_
  refine J.loop (X := Nat × Value × List Int) (fun ξ => ξ.1 ≤ l.length ∧ ξ.2.2 = Wt.ofJ (l.take ξ.1) c ∧ ξ.2.2.length ≤ ξ.1) (fun ξ => [(0, lv), (1, .int .i64 c), (4, Value.slice none 0 0), (5, ξ.2.1), (6, .int .i64 (ξ.1 : Int))]) (fun ξ => [row ξ.2.1 3 1 (ξ.2.2.map encZ)]) (fun ξ => l.length - ξ.1) ⟨0, Value.slice none 0 0, []⟩ (show 0 ≤ l.length ∧ ([]) = Wt.ofJ (l.take 0) c ∧ ([]).length ≤ 0 from ⟨by omega, by simp [Wt.ofJ], by simp⟩) ⟨rfl, rfl, rfl, rfl, (congrArg (fun z => some (Value.int .i64 z)) (by first | rfl | omega : (0 : Int) = (0 : Int))), trivial⟩ [0] (by decide) rfl ?_
  rintro ⟨k, V, o⟩ hq1
  obtain ⟨hk, hst, hlen⟩ : k ≤ l.length ∧ o = Wt.ofJ (l.take k) c ∧ o.length ≤ k := hq1
  show J _ _ [(0, lv), (1, .int .i64 c), (4, Value.slice none 0 0), (5, V), (6, .int .i64 (k : Int))] [row V 3 1 (o.map encZ)]
  refine J.seq ?_
  refine J.seq ?_
  refine J.region ?_
  refine O.p (Pu.move rfl) rfl ?_
  refine O.p (Pu.move rfl) rfl ?_
  refine O.q (Qt.lenM Try.runUnderlying51 rfl (Src.ro 0 rfl)) rfl ?_
  refine O.p (Pu.lss rfl rfl) rfl ?_
  refine O.nil ?_
  refine J.cond rfl (fun h2 => ?_) (fun h2 => ?_)
  ·
    have p3 := of_decide_eq_true h2
    refine J.skip ?_
    refine J.seq ?_
    refine J.block ?_
    refine J.seq ?_
    refine J.region ?_
    refine O.p (Pu.move rfl) rfl ?_
    refine O.p (Pu.move rfl) rfl ?_
    obtain ⟨e4, he4⟩ : ∃ x_, l[k]? = some x_ := ⟨_, List.getElem?_eq_getElem (by first | omega | (simp only [List.length_append, List.length_cons, List.length_nil, List.length_take, List.length_drop]; omega))⟩
    refine O.q (Qt.idxM Try.runUnderlying51 Try.sizeOf98 rfl (Src.ro 0 rfl) rfl (by first | omega | (simp only [List.length_append, List.length_cons, List.length_nil, List.length_take, List.length_drop]; omega)) (by first | omega | (simp only [List.length_append, List.length_cons, List.length_nil, List.length_take, List.length_drop]; omega))) rfl ?_
    refine O.p (Pu.fieldAddr (off' := voff lv + ((k : Int)).toNat * 2 + 1) Try.runUnderlying98 rfl Try.sizeOf3 rfl rfl rfl) rfl ?_
    refine O.q (Qt.ld rfl (Cel.eltM (Src.ro 0 rfl) he4) (o := (voff lv + k * 2)) (off := 1) (by omega) (Cut.one Try.isAgg3 rfl)) rfl ?_
    refine O.p (Pu.move rfl) rfl ?_
    refine O.p (Pu.eql rfl rfl) rfl ?_
    refine O.nil ?_
    refine J.cond rfl (fun h5 => ?_) (fun h5 => ?_)
    ·
      have p6 := of_decide_eq_true h5
      refine J.region ?_
      refine O.p (Pu.move rfl) rfl ?_
      refine O.p (Pu.move rfl) rfl ?_
      refine O.p (Pu.move rfl) rfl ?_
      refine O.q (Qt.idxM Try.runUnderlying51 Try.sizeOf98 rfl (Src.ro 0 rfl) rfl (by first | omega | (simp only [List.length_append, List.length_cons, List.length_nil, List.length_take, List.length_drop]; omega)) (by first | omega | (simp only [List.length_append, List.length_cons, List.length_nil, List.length_take, List.length_drop]; omega))) rfl ?_
      refine O.p (Pu.fieldAddr (off' := voff lv + ((k : Int)).toNat * 2 + 0) Try.runUnderlying98 rfl Try.sizeOf3 rfl rfl rfl) rfl ?_
      refine O.q (Qt.ld rfl (Cel.eltM (Src.ro 0 rfl) he4) (o := (voff lv + k * 2)) (off := 0) (by omega) (Cut.one Try.isAgg3 rfl)) rfl ?_
      refine O.l (Lo.buildM (s := 1) encZ [e4.call] [(0, .int .i64 e4.call)] (by exact Try.runUnderlying24) (by exact Try.sizeOf3) (by exact Try.zeroValue3) rfl rfl rfl (by kernel_rfl) rfl rfl) rfl ?_
      rintro V7 _ rfl
      refine O.l (Lo.appendM (s := 1) 1 (by exact Try.underlying24) (by exact (info3).1) (by exact (info3).2.1) (by exact (info3).2.2.1) (by exact (info3).2.2.2) rfl rfl rfl rfl rfl (Src.row 0 rfl) encZ.one (by first | omega | (simp only [List.length_append, List.length_cons, List.length_nil, List.length_take, List.length_drop]; omega)) (by first | omega | (simp only [List.length_append, List.length_cons, List.length_nil, List.length_take, List.length_drop]; omega))) rfl ?_
      rintro V8 _ rfl
      refine O.p (Pu.assign rfl) rfl ?_
      refine O.nil ?_
      refine J.blk ?_
      refine J.region ?_
      refine O.p (Pu.move rfl) rfl ?_
      refine O.p (Pu.add' rfl rfl (by first | omega | (simp only [List.length_append, List.length_cons, List.length_nil, List.length_set]; omega))) rfl ?_
      refine O.p (Pu.assign rfl) rfl ?_
      refine O.nil ?_
      exact J.lp ⟨k + 1, V8, o ++ ([e4.call])⟩ (show (k + 1) ≤ l.length ∧ (o ++ ([e4.call])) = Wt.ofJ (l.take (k + 1)) c ∧ (o ++ ([e4.call])).length ≤ (k + 1) from ⟨by omega, (by rw [hst]; first | exact (Wt.ofJ_next1 he4 (by assumption)).symm | exact (Wt.ofJ_next0 he4 (by first | assumption | omega)).symm), (by first | omega | (simp only [List.length_append, List.length_cons, List.length_nil]; omega))⟩) (show l.length - (k + 1) < l.length - k from (by first | omega | (simp only [List.length_append, List.length_cons, List.length_nil, List.length_take, List.length_drop]; omega))) ⟨rfl, rfl, rfl, rfl, (congrArg (fun z => some (Value.int .i64 z)) (by first | rfl | omega : ((k : Int) + 1 : Int) = ((k + 1) : Int))), trivial⟩ [1] (by decide) rfl
    ·
      have p9 := of_decide_eq_false h5
      refine J.skip ?_
      refine J.blk ?_
      refine J.region ?_
      refine O.p (Pu.move rfl) rfl ?_
      refine O.p (Pu.add' rfl rfl (by first | omega | (simp only [List.length_append, List.length_cons, List.length_nil, List.length_set]; omega))) rfl ?_
      refine O.p (Pu.assign rfl) rfl ?_
      refine O.nil ?_
      exact J.lp ⟨k + 1, V, o⟩ (show (k + 1) ≤ l.length ∧ o = Wt.ofJ (l.take (k + 1)) c ∧ o.length ≤ (k + 1) from ⟨by omega, (by rw [hst]; first | exact (Wt.ofJ_next1 he4 (by assumption)).symm | exact (Wt.ofJ_next0 he4 (by first | assumption | omega)).symm), (by first | omega | (simp only [List.length_append, List.length_cons, List.length_nil]; omega))⟩) (show l.length - (k + 1) < l.length - k from (by first | omega | (simp only [List.length_append, List.length_cons, List.length_nil, List.length_take, List.length_drop]; omega))) ⟨rfl, rfl, rfl, rfl, (congrArg (fun z => some (Value.int .i64 z)) (by first | rfl | omega : ((k : Int) + 1 : Int) = ((k + 1) : Int))), trivial⟩ [0] (by decide) rfl
  ·
    have p10 := of_decide_eq_false h2
    refine J.exit _ rfl ?_
    refine J.seq ?_
    refine J.region ?_
    refine O.p (Pu.move rfl) rfl ?_
    refine O.p (Pu.assign rfl) rfl ?_
    refine O.nil ?_
    exact J.ret (Fin.ret (rs := [.tmp 4]) rfl [_] ⟨rfl, trivial⟩ [0] (by decide) [row V 3 1 (o.map encZ)] rfl (congrArg (fun (z : List Int) => ([row V 3 1 (z.map encZ)] : List Sp)) (show o = Wt.ofJ l c from (by rw [hst, List.take_of_length_le (by omega)]))))

set_option maxRecDepth 100000 in
theorem r34_Drop (lv : Value) (l : List Pr) (c : Int) (hl : l.length ≤ 100000) : Tri Try.prog 28 #[lv, .int .i64 c] [rd lv 2 (l.map Pr.cells)] [] (fun v L' => L' = [row v 98 2 ((Wt.drop l c).map Pr.cells)]) := by
  refine Tri.enter (args := [lv, .int .i64 c]) (body := _) 28 Try.func28 rfl Try.ntmps28 rfl ?_
  intro w0
  refine J.seq ?_
  refine J.region ?_
  refine O.p (Pu.assign rfl) rfl ?_
  refine O.nil ?_
  refine J.seq ?_
  refine J.region ?_
  refine O.p (Pu.assign rfl) rfl ?_
  refine O.nil ?_
  refine J.seq ?_
  refine J.seq ?_
  refine J.region ?_
  refine O.p (Pu.assign rfl) rfl ?_
  refine O.nil ?_
  refine J.block ?_
  refine J.nilRow 98 2 ?_
  refine J.loop (X := Nat × Value × List Pr) (fun ξ => ξ.1 ≤ l.length ∧ ξ.2.2 = Wt.drop (l.take ξ.1) c ∧ ξ.2.2.length ≤ ξ.1) (fun ξ => [(0, lv), (1, .int .i64 c), (4, Value.slice none 0 0), (5, ξ.2.1), (6, .int .i64 (ξ.1 : Int))]) (fun ξ => [row ξ.2.1 98 2 (ξ.2.2.map Pr.cells)]) (fun ξ => l.length - ξ.1) ⟨0, Value.slice none 0 0, []⟩ (show 0 ≤ l.length ∧ ([]) = Wt.drop (l.take 0) c ∧ ([]).length ≤ 0 from ⟨by omega, by simp [Wt.drop], by simp⟩) ⟨rfl, rfl, rfl, rfl, (congrArg (fun z => some (Value.int .i64 z)) (by first | rfl | omega : (0 : Int) = (0 : Int))), trivial⟩ [0] (by decide) rfl ?_
  rintro ⟨k, V, o⟩ hq1
  obtain ⟨hk, hst, hlen⟩ : k ≤ l.length ∧ o = Wt.drop (l.take k) c ∧ o.length ≤ k := hq1
  show J _ _ [(0, lv), (1, .int .i64 c), (4, Value.slice none 0 0), (5, V), (6, .int .i64 (k : Int))] [row V 98 2 (o.map Pr.cells)]
  refine J.seq ?_
  refine J.seq ?_
  refine J.region ?_
  refine O.p (Pu.move rfl) rfl ?_
  refine O.p (Pu.move rfl) rfl ?_
  refine O.q (Qt.lenM Try.runUnderlying51 rfl (Src.ro 0 rfl)) rfl ?_
  refine O.p (Pu.lss rfl rfl) rfl ?_
  refine O.nil ?_
  refine J.cond rfl (fun h2 => ?_) (fun h2 => ?_)
  ·
    have p3 := of_decide_eq_true h2
    refine J.skip ?_
    refine J.seq ?_
    refine J.block ?_
    refine J.seq ?_
    refine J.region ?_
    refine O.p (Pu.move rfl) rfl ?_
    refine O.p (Pu.move rfl) rfl ?_
    obtain ⟨e4, he4⟩ : ∃ x_, l[k]? = some x_ := ⟨_, List.getElem?_eq_getElem (by first | omega | (simp only [List.length_append, List.length_cons, List.length_nil, List.length_take, List.length_drop]; omega))⟩
    refine O.q (Qt.idxM Try.runUnderlying51 Try.sizeOf98 rfl (Src.ro 0 rfl) rfl (by first | omega | (simp only [List.length_append, List.length_cons, List.length_nil, List.length_take, List.length_drop]; omega)) (by first | omega | (simp only [List.length_append, List.length_cons, List.length_nil, List.length_take, List.length_drop]; omega))) rfl ?_
    refine O.p (Pu.fieldAddr (off' := voff lv + ((k : Int)).toNat * 2 + 1) Try.runUnderlying98 rfl Try.sizeOf3 rfl rfl rfl) rfl ?_
    refine O.q (Qt.ld rfl (Cel.eltM (Src.ro 0 rfl) he4) (o := (voff lv + k * 2)) (off := 1) (by omega) (Cut.one Try.isAgg3 rfl)) rfl ?_
    refine O.p (Pu.move rfl) rfl ?_
    refine O.p (Pu.neq rfl rfl) rfl ?_
    refine O.nil ?_
    refine J.cond rfl (fun h5 => ?_) (fun h5 => ?_)
    ·
      have p6 := of_decide_eq_true h5
      refine J.region ?_
      refine O.p (Pu.move rfl) rfl ?_
      refine O.p (Pu.move rfl) rfl ?_
      refine O.p (Pu.move rfl) rfl ?_
      refine O.q (Qt.idxM Try.runUnderlying51 Try.sizeOf98 rfl (Src.ro 0 rfl) rfl (by first | omega | (simp only [List.length_append, List.length_cons, List.length_nil, List.length_take, List.length_drop]; omega)) (by first | omega | (simp only [List.length_append, List.length_cons, List.length_nil, List.length_take, List.length_drop]; omega))) rfl ?_
      refine O.q (Qt.ld rfl (Cel.eltM (Src.ro 0 rfl) he4) (o := (voff lv + k * 2)) (off := 0) (by omega) (Cut.agg [.int .i64 e4.call, .int .i64 e4.job] Try.isAgg98 Try.sizeOf98 rfl rfl)) rfl ?_
      refine O.l (Lo.buildM (s := 2) Pr.cells [e4] [(0, .agg #[.int .i64 e4.call, .int .i64 e4.job])] (by exact Try.runUnderlying51) (by exact Try.sizeOf98) (by exact Try.zeroValue98) rfl rfl rfl (by kernel_rfl) rfl rfl) rfl ?_
      rintro V7 _ rfl
      refine O.l (Lo.appendM (s := 2) 1 (by exact Try.underlying51) (by exact (info98).1) (by exact (info98).2.1) (by exact (info98).2.2.1) (by exact (info98).2.2.2) rfl rfl rfl rfl rfl (Src.row 0 rfl) Pr.one (by first | omega | (simp only [List.length_append, List.length_cons, List.length_nil, List.length_take, List.length_drop]; omega)) (by first | omega | (simp only [List.length_append, List.length_cons, List.length_nil, List.length_take, List.length_drop]; omega))) rfl ?_
      rintro V8 _ rfl
      refine O.p (Pu.assign rfl) rfl ?_
      refine O.nil ?_
      refine J.blk ?_
      refine J.region ?_
      refine O.p (Pu.move rfl) rfl ?_
      refine O.p (Pu.add' rfl rfl (by first | omega | (simp only [List.length_append, List.length_cons, List.length_nil, List.length_set]; omega))) rfl ?_
      refine O.p (Pu.assign rfl) rfl ?_
      refine O.nil ?_
      exact J.lp ⟨k + 1, V8, o ++ ([e4])⟩ (show (k + 1) ≤ l.length ∧ (o ++ ([e4])) = Wt.drop (l.take (k + 1)) c ∧ (o ++ ([e4])).length ≤ (k + 1) from ⟨by omega, (by rw [hst]; first | exact (Wt.drop_next1 he4 (by assumption)).symm | exact (Wt.drop_next0 he4 (by first | assumption | omega)).symm), (by first | omega | (simp only [List.length_append, List.length_cons, List.length_nil]; omega))⟩) (show l.length - (k + 1) < l.length - k from (by first | omega | (simp only [List.length_append, List.length_cons, List.length_nil, List.length_take, List.length_drop]; omega))) ⟨rfl, rfl, rfl, rfl, (congrArg (fun z => some (Value.int .i64 z)) (by first | rfl | omega : ((k : Int) + 1 : Int) = ((k + 1) : Int))), trivial⟩ [1] (by decide) rfl
    ·
      have p9 := of_decide_eq_false h5
      refine J.skip ?_
      refine J.blk ?_
      refine J.region ?_
      refine O.p (Pu.move rfl) rfl ?_
      refine O.p (Pu.add' rfl rfl (by first | omega | (simp only [List.length_append, List.length_cons, List.length_nil, List.length_set]; omega))) rfl ?_
      refine O.p (Pu.assign rfl) rfl ?_
      refine O.nil ?_
      exact J.lp ⟨k + 1, V, o⟩ (show (k + 1) ≤ l.length ∧ o = Wt.drop (l.take (k + 1)) c ∧ o.length ≤ (k + 1) from ⟨by omega, (by rw [hst]; first | exact (Wt.drop_next1 he4 (by assumption)).symm | exact (Wt.drop_next0 he4 (by first | assumption | omega)).symm), (by first | omega | (simp only [List.length_append, List.length_cons, List.length_nil]; omega))⟩) (show l.length - (k + 1) < l.length - k from (by first | omega | (simp only [List.length_append, List.length_cons, List.length_nil, List.length_take, List.length_drop]; omega))) ⟨rfl, rfl, rfl, rfl, (congrArg (fun z => some (Value.int .i64 z)) (by first | rfl | omega : ((k : Int) + 1 : Int) = ((k + 1) : Int))), trivial⟩ [0] (by decide) rfl
  ·
    have p10 := of_decide_eq_false h2
    refine J.exit _ rfl ?_
    refine J.seq ?_
    refine J.region ?_
    refine O.p (Pu.move rfl) rfl ?_
    refine O.p (Pu.assign rfl) rfl ?_
    refine O.nil ?_
    exact J.ret (Fin.ret (rs := [.tmp 4]) rfl [_] ⟨rfl, trivial⟩ [0] (by decide) [row V 98 2 (o.map Pr.cells)] rfl (congrArg (fun (z : List Pr) => ([row V 98 2 (z.map Pr.cells)] : List Sp)) (show o = Wt.drop l c from (by rw [hst, List.take_of_length_le (by omega)]))))

theorem r34_JobIs (lv : Value) (l : List Pr) (c : Int) (hl : l.length ≤ 100000) (h : (Wt.jobOf l c).isSome = true) : Tri Try.prog 25 #[lv, .int .i64 c] [rd lv 2 (l.map Pr.cells)] [] (fun v L' => v = .tuple #[.int .i64 ((Wt.jobOf l c).getD 0), .bool true] ∧ L' = []) := by
  rw [← h]; exact r34_Job lv l c hl
theorem r34_JobNo (lv : Value) (l : List Pr) (c : Int) (hl : l.length ≤ 100000) (h : (Wt.jobOf l c).isSome = false) : Tri Try.prog 25 #[lv, .int .i64 c] [rd lv 2 (l.map Pr.cells)] [] (fun v L' => v = .tuple #[.int .i64 ((Wt.jobOf l c).getD 0), .bool false] ∧ L' = []) := by
  rw [← h]; exact r34_Job lv l c hl

set_option maxRecDepth 100000 in
theorem r34_AddIs (lv : Value) (l : List Pr) (c j : Int) (hl : l.length ≤ 100000) (h : (Wt.jobOf l c).isSome = true) : Tri Try.prog 24 #[lv, .int .i64 c, .int .i64 j] [rd lv 2 (l.map Pr.cells)] [] (fun v L' => v = .tuple #[lv, .bool false] ∧ L' = []) := by
  refine Tri.enter (args := [lv, .int .i64 c, .int .i64 j]) (body := _) 51 Try.func24 rfl Try.ntmps24 rfl ?_
  intro w0
  refine J.seq ?_
  refine J.region ?_
  refine O.p (Pu.assign rfl) rfl ?_
  refine O.p (Pu.assign rfl) rfl ?_
  refine O.nil ?_
  refine J.seq ?_
  refine J.seq ?_
  refine J.region ?_
  refine O.p (Pu.move rfl) rfl ?_
  refine O.p (Pu.move rfl) rfl ?_
  refine O.l (Lo.call [lv, .int .i64 c] (by exact Try.call25) rfl (r34_JobIs lv l c (by omega) h) [] [] (by decide) rfl [] rfl (RoOk.ro 0 rfl [] rfl RoOk.nil)) rfl ?_
  rintro _ _ ⟨_, ⟨rfl, rfl⟩, rfl⟩
  refine O.p (Pu.move rfl) rfl ?_
  refine O.p (Pu.extract rfl rfl) rfl ?_
  refine O.p (Pu.extract rfl rfl) rfl ?_
  refine O.p (Pu.assign rfl) rfl ?_
  refine O.p (Pu.assign rfl) rfl ?_
  refine O.nil ?_
  refine J.seq ?_
  refine J.region ?_
  refine O.p (Pu.move rfl) rfl ?_
  refine O.nil ?_
  refine J.condT rfl rfl ?_
  refine J.seq ?_
  refine J.region ?_
  refine O.p (Pu.move rfl) rfl ?_
  refine O.p (Pu.assign rfl) rfl ?_
  refine O.p (Pu.assign rfl) rfl ?_
  refine O.nil ?_
  exact J.ret (Fin.ret (rs := [.tmp 6, .tmp 7]) rfl [_, _] ⟨rfl, rfl, trivial⟩ [] (by decide) [] rfl ⟨rfl, rfl⟩)

set_option maxRecDepth 100000 in
theorem r34_AddNew (lv : Value) (l : List Pr) (c j : Int) (hl : l.length ≤ 100000) (h : (Wt.jobOf l c).isSome = false) : Tri Try.prog 24 #[lv, .int .i64 c, .int .i64 j] [rd lv 2 (l.map Pr.cells)] [] (fun v L' => ∃ V', v = .tuple #[V', .bool true] ∧ L' = [row V' 98 2 ((Wt.ins l c j).map Pr.cells)]) := by
  refine Tri.enter (args := [lv, .int .i64 c, .int .i64 j]) (body := _) 51 Try.func24 rfl Try.ntmps24 rfl ?_
  intro w0
  refine J.seq ?_
  refine J.region ?_
  refine O.p (Pu.assign rfl) rfl ?_
  refine O.p (Pu.assign rfl) rfl ?_
  refine O.nil ?_
  refine J.seq ?_
  refine J.seq ?_
  refine J.region ?_
  refine O.p (Pu.move rfl) rfl ?_
  refine O.p (Pu.move rfl) rfl ?_
  refine O.l (Lo.call [lv, .int .i64 c] (by exact Try.call25) rfl (r34_JobNo lv l c (by omega) h) [] [] (by decide) rfl [] rfl (RoOk.ro 0 rfl [] rfl RoOk.nil)) rfl ?_
  rintro _ _ ⟨_, ⟨rfl, rfl⟩, rfl⟩
  refine O.p (Pu.move rfl) rfl ?_
  refine O.p (Pu.extract rfl rfl) rfl ?_
  refine O.p (Pu.extract rfl rfl) rfl ?_
  refine O.p (Pu.assign rfl) rfl ?_
  refine O.p (Pu.assign rfl) rfl ?_
  refine O.nil ?_
  refine J.seq ?_
  refine J.region ?_
  refine O.p (Pu.move rfl) rfl ?_
  refine O.nil ?_
  refine J.condF rfl rfl ?_
  refine J.skip ?_
  refine J.seq ?_
  refine J.region ?_
  refine O.p (Pu.assign rfl) rfl ?_
  refine O.nil ?_
  refine J.seq ?_
  refine J.block ?_
  refine J.loop (X := Nat) (fun ξ => ξ ≤ l.length ∧ Wt.Ahead l c ξ) (fun ξ => [(0, lv), (1, .int .i64 c), (2, .int .i64 j), (6, Value.slice none 0 0), (7, .bool false), (10, .int .i64 (ξ : Int))]) (fun ξ => []) (fun ξ => l.length - ξ) 0 (show 0 ≤ l.length ∧ Wt.Ahead l c 0 from ⟨by omega, Wt.Ahead.zero⟩) ⟨rfl, rfl, rfl, rfl, rfl, (congrArg (fun z => some (Value.int .i64 z)) (by first | rfl | omega : (0 : Int) = (0 : Int))), trivial⟩ [] (by decide) rfl ?_
  rintro k hq2
  obtain ⟨hk, ha⟩ : k ≤ l.length ∧ Wt.Ahead l c k := hq2
  show J _ _ [(0, lv), (1, .int .i64 c), (2, .int .i64 j), (6, Value.slice none 0 0), (7, .bool false), (10, .int .i64 (k : Int))] []
  refine J.seq ?_
  refine J.seq ?_
  refine J.region ?_
  refine O.p (Pu.move rfl) rfl ?_
  refine O.p (Pu.move rfl) rfl ?_
  refine O.q (Qt.lenM Try.runUnderlying51 rfl (Src.ro 0 rfl)) rfl ?_
  refine O.p (Pu.lss rfl rfl) rfl ?_
  refine O.p (Pu.move rfl) rfl ?_
  refine by_bool (decide ((k : Int) < (l.length : Int))) (fun h3 => ?_) (fun h3 => ?_)
  ·
    have p4 := of_decide_eq_true h3
    refine O.gq (t := 24) rfl rfl h3 rfl (Pu.qt (Pu.move rfl)) rfl ?_
    refine O.gq (t := 24) rfl rfl h3 rfl (Pu.qt (Pu.move rfl)) rfl ?_
    obtain ⟨e5, he5⟩ : ∃ x_, l[k]? = some x_ := ⟨_, List.getElem?_eq_getElem (by first | omega | (simp only [List.length_append, List.length_cons, List.length_nil, List.length_take, List.length_drop]; omega))⟩
    refine O.gq (t := 24) rfl rfl h3 rfl (Qt.idxM Try.runUnderlying51 Try.sizeOf98 rfl (Src.ro 0 rfl) rfl (by first | omega | (simp only [List.length_append, List.length_cons, List.length_nil, List.length_take, List.length_drop]; omega)) (by first | omega | (simp only [List.length_append, List.length_cons, List.length_nil, List.length_take, List.length_drop]; omega))) rfl ?_
    refine O.gq (t := 24) rfl rfl h3 rfl (Pu.qt (Pu.fieldAddr (off' := voff lv + ((k : Int)).toNat * 2 + 0) Try.runUnderlying98 rfl Try.sizeOf3 rfl rfl rfl)) rfl ?_
    refine O.gq (t := 24) rfl rfl h3 rfl (Qt.ld rfl (Cel.eltM (Src.ro 0 rfl) he5) (o := (voff lv + k * 2)) (off := 0) (by omega) (Cut.one Try.isAgg3 rfl)) rfl ?_
    refine O.gq (t := 24) rfl rfl h3 rfl (Pu.qt (Pu.move rfl)) rfl ?_
    refine O.gq (t := 24) rfl rfl h3 rfl (Pu.qt (Pu.lss rfl rfl)) rfl ?_
    refine O.p (Pu.pickT rfl h3 rfl) rfl ?_
    refine O.nil ?_
    refine J.cond rfl (fun h6 => ?_) (fun h6 => ?_)
    ·
      have p7 := of_decide_eq_true h6
      refine J.skip ?_
      refine J.block ?_
      refine J.region ?_
      refine O.p (Pu.move rfl) rfl ?_
      refine O.p (Pu.add' rfl rfl (by first | omega | (simp only [List.length_append, List.length_cons, List.length_nil, List.length_set]; omega))) rfl ?_
      refine O.p (Pu.assign rfl) rfl ?_
      refine O.nil ?_
      refine J.blk ?_
      exact J.lp (k + 1) (show (k + 1) ≤ l.length ∧ Wt.Ahead l c (k + 1) from ⟨by omega, ha.next he5 (by assumption)⟩) (show l.length - (k + 1) < l.length - k from (by first | omega | (simp only [List.length_append, List.length_cons, List.length_nil, List.length_take, List.length_drop]; omega))) ⟨rfl, rfl, rfl, rfl, rfl, (congrArg (fun z => some (Value.int .i64 z)) (by first | rfl | omega : ((k : Int) + 1 : Int) = ((k + 1) : Int))), trivial⟩ [] (by decide) rfl
    ·
      have p8 := of_decide_eq_false h6
      refine J.exit _ rfl ?_
      refine J.seq ?_
      refine J.region ?_
      refine O.p (Pu.assign rfl) rfl ?_
      refine O.nil ?_
      refine J.seq ?_
      refine J.region ?_
      refine O.p (Pu.move rfl) rfl ?_
      refine O.p (Pu.move rfl) rfl ?_
      refine O.p (Pu.move rfl) rfl ?_
      refine O.q (Qt.cutHead Try.runUnderlying51 Try.sizeOf98 rfl (Src.ro 0 rfl) rfl (by first | omega | (simp only [List.length_append, List.length_cons, List.length_nil, List.length_take, List.length_drop]; omega)) (by first | omega | (simp only [List.length_append, List.length_cons, List.length_nil, List.length_take, List.length_drop]; omega))) rfl ?_
      refine O.nilRow 98 2 ?_
      show O _ _ _ _ _ [row (Value.slice none 0 0) 98 2 (([] : List Pr).map Pr.cells)]
      refine O.l (Lo.appendM (s := 2) 0 (by exact Try.underlying51) (by exact (info98).1) (by exact (info98).2.1) (by exact (info98).2.2.1) (by exact (info98).2.2.2) rfl rfl rfl rfl rfl (Src.head (l := l) (Src.ro 0 rfl) (by first | omega | (simp only [List.length_append, List.length_cons, List.length_nil, List.length_take, List.length_drop]; omega))) Pr.one (by first | omega | (simp only [List.length_append, List.length_cons, List.length_nil, List.length_take, List.length_drop]; omega)) (by first | omega | (simp only [List.length_append, List.length_cons, List.length_nil, List.length_take, List.length_drop]; omega))) rfl ?_
      rintro V9 _ rfl
      refine O.p (Pu.assign rfl) rfl ?_
      refine O.nil ?_
      refine J.seq ?_
      refine J.region ?_
      refine O.p (Pu.move rfl) rfl ?_
      refine O.p (Pu.move rfl) rfl ?_
      refine O.p (Pu.move rfl) rfl ?_
      refine O.p (Pu.build [(0, .int .i64 c), (1, .int .i64 j)] [.int .i64 c, .int .i64 j] #[(0, 1), (1, 1)] Try.runUnderlying98 Try.zeroValue98 (places98 Try.underlying98) rfl (by kernel_rfl)) rfl ?_
      refine O.l (Lo.buildM (s := 2) Pr.cells [(⟨c, j⟩ : Pr)] [(0, .agg #[.int .i64 c, .int .i64 j])] (by exact Try.runUnderlying51) (by exact Try.sizeOf98) (by exact Try.zeroValue98) rfl rfl rfl (by kernel_rfl) rfl rfl) rfl ?_
      rintro V10 _ rfl
      refine O.l (Lo.appendM (s := 2) 1 (by exact Try.underlying51) (by exact (info98).1) (by exact (info98).2.1) (by exact (info98).2.2.1) (by exact (info98).2.2.2) rfl rfl rfl rfl rfl (Src.row 0 rfl) Pr.one (by first | omega | (simp only [List.length_append, List.length_cons, List.length_nil, List.length_take, List.length_drop]; omega)) (by first | omega | (simp only [List.length_append, List.length_cons, List.length_nil, List.length_take, List.length_drop]; omega))) rfl ?_
      rintro V11 _ rfl
      refine O.p (Pu.assign rfl) rfl ?_
      refine O.nil ?_
      refine J.seq ?_
      refine J.region ?_
      refine O.p (Pu.move rfl) rfl ?_
      refine O.p (Pu.move rfl) rfl ?_
      refine O.p (Pu.move rfl) rfl ?_
      refine O.q (Qt.cutTail Try.runUnderlying51 Try.sizeOf98 rfl (Src.ro 0 rfl) rfl (by first | omega | (simp only [List.length_append, List.length_cons, List.length_nil, List.length_take, List.length_drop]; omega)) (by first | omega | (simp only [List.length_append, List.length_cons, List.length_nil, List.length_take, List.length_drop]; omega))) rfl ?_
      refine O.l (Lo.appendM (s := 2) 1 (by exact Try.underlying51) (by exact (info98).1) (by exact (info98).2.1) (by exact (info98).2.2.1) (by exact (info98).2.2.2) rfl rfl rfl rfl rfl (Src.tail (l := l) (Src.ro 0 rfl) (by first | omega | (simp only [List.length_append, List.length_cons, List.length_nil, List.length_take, List.length_drop]; omega)) rfl) Pr.one (by first | omega | (simp only [List.length_append, List.length_cons, List.length_nil, List.length_take, List.length_drop]; omega)) (by first | omega | (simp only [List.length_append, List.length_cons, List.length_nil, List.length_take, List.length_drop]; omega))) rfl ?_
      rintro V12 _ rfl
      refine O.p (Pu.assign rfl) rfl ?_
      refine O.p (Pu.assign rfl) rfl ?_
      refine O.nil ?_
      exact J.ret (Fin.ret (rs := [.tmp 6, .tmp 7]) rfl [_, _] ⟨rfl, rfl, trivial⟩ [1] (by decide) [row V12 98 2 ((((([] : List Pr) ++ (l.take ((k : Int)).toNat)) ++ ([(⟨c, j⟩ : Pr)])) ++ (l.drop ((k : Int)).toNat)).map Pr.cells)] rfl ⟨V12, rfl, congrArg (fun (z : List Pr) => ([row V12 98 2 (z.map Pr.cells)] : List Sp)) (show ((([] : List Pr) ++ (l.take ((k : Int)).toNat)) ++ ([(⟨c, j⟩ : Pr)])) ++ (l.drop ((k : Int)).toNat) = Wt.ins l c j from (by rw [← Wt.ins_place ha (by omega) (fun e_ he_ => (by rw [he5] at he_; cases he_; assumption))]; simp))⟩)
  ·
    have p13 := of_decide_eq_false h3
    refine O.gskip (t := 24) rfl rfl (no_bool (by rw [h3]; decide)) rfl rfl ?_
    refine O.gskip (t := 24) rfl rfl (no_bool (by rw [h3]; decide)) rfl rfl ?_
    refine O.gskip (t := 24) rfl rfl (no_bool (by rw [h3]; decide)) rfl rfl ?_
    refine O.gskip (t := 24) rfl rfl (no_bool (by rw [h3]; decide)) rfl rfl ?_
    refine O.gskip (t := 24) rfl rfl (no_bool (by rw [h3]; decide)) rfl rfl ?_
    refine O.gskip (t := 24) rfl rfl (no_bool (by rw [h3]; decide)) rfl rfl ?_
    refine O.gskip (t := 24) rfl rfl (no_bool (by rw [h3]; decide)) rfl rfl ?_
    refine O.p (Pu.pickF rfl h3 rfl) rfl ?_
    refine O.nil ?_
    refine J.condF rfl rfl ?_
    refine J.exit _ rfl ?_
    refine J.seq ?_
    refine J.region ?_
    refine O.p (Pu.assign rfl) rfl ?_
    refine O.nil ?_
    refine J.seq ?_
    refine J.region ?_
    refine O.p (Pu.move rfl) rfl ?_
    refine O.p (Pu.move rfl) rfl ?_
    refine O.p (Pu.move rfl) rfl ?_
    refine O.q (Qt.cutHead Try.runUnderlying51 Try.sizeOf98 rfl (Src.ro 0 rfl) rfl (by first | omega | (simp only [List.length_append, List.length_cons, List.length_nil, List.length_take, List.length_drop]; omega)) (by first | omega | (simp only [List.length_append, List.length_cons, List.length_nil, List.length_take, List.length_drop]; omega))) rfl ?_
    refine O.nilRow 98 2 ?_
    show O _ _ _ _ _ [row (Value.slice none 0 0) 98 2 (([] : List Pr).map Pr.cells)]
    refine O.l (Lo.appendM (s := 2) 0 (by exact Try.underlying51) (by exact (info98).1) (by exact (info98).2.1) (by exact (info98).2.2.1) (by exact (info98).2.2.2) rfl rfl rfl rfl rfl (Src.head (l := l) (Src.ro 0 rfl) (by first | omega | (simp only [List.length_append, List.length_cons, List.length_nil, List.length_take, List.length_drop]; omega))) Pr.one (by first | omega | (simp only [List.length_append, List.length_cons, List.length_nil, List.length_take, List.length_drop]; omega)) (by first | omega | (simp only [List.length_append, List.length_cons, List.length_nil, List.length_take, List.length_drop]; omega))) rfl ?_
    rintro V14 _ rfl
    refine O.p (Pu.assign rfl) rfl ?_
    refine O.nil ?_
    refine J.seq ?_
    refine J.region ?_
    refine O.p (Pu.move rfl) rfl ?_
    refine O.p (Pu.move rfl) rfl ?_
    refine O.p (Pu.move rfl) rfl ?_
    refine O.p (Pu.build [(0, .int .i64 c), (1, .int .i64 j)] [.int .i64 c, .int .i64 j] #[(0, 1), (1, 1)] Try.runUnderlying98 Try.zeroValue98 (places98 Try.underlying98) rfl (by kernel_rfl)) rfl ?_
    refine O.l (Lo.buildM (s := 2) Pr.cells [(⟨c, j⟩ : Pr)] [(0, .agg #[.int .i64 c, .int .i64 j])] (by exact Try.runUnderlying51) (by exact Try.sizeOf98) (by exact Try.zeroValue98) rfl rfl rfl (by kernel_rfl) rfl rfl) rfl ?_
    rintro V15 _ rfl
    refine O.l (Lo.appendM (s := 2) 1 (by exact Try.underlying51) (by exact (info98).1) (by exact (info98).2.1) (by exact (info98).2.2.1) (by exact (info98).2.2.2) rfl rfl rfl rfl rfl (Src.row 0 rfl) Pr.one (by first | omega | (simp only [List.length_append, List.length_cons, List.length_nil, List.length_take, List.length_drop]; omega)) (by first | omega | (simp only [List.length_append, List.length_cons, List.length_nil, List.length_take, List.length_drop]; omega))) rfl ?_
    rintro V16 _ rfl
    refine O.p (Pu.assign rfl) rfl ?_
    refine O.nil ?_
    refine J.seq ?_
    refine J.region ?_
    refine O.p (Pu.move rfl) rfl ?_
    refine O.p (Pu.move rfl) rfl ?_
    refine O.p (Pu.move rfl) rfl ?_
    refine O.q (Qt.cutTail Try.runUnderlying51 Try.sizeOf98 rfl (Src.ro 0 rfl) rfl (by first | omega | (simp only [List.length_append, List.length_cons, List.length_nil, List.length_take, List.length_drop]; omega)) (by first | omega | (simp only [List.length_append, List.length_cons, List.length_nil, List.length_take, List.length_drop]; omega))) rfl ?_
    refine O.l (Lo.appendM (s := 2) 1 (by exact Try.underlying51) (by exact (info98).1) (by exact (info98).2.1) (by exact (info98).2.2.1) (by exact (info98).2.2.2) rfl rfl rfl rfl rfl (Src.tail (l := l) (Src.ro 0 rfl) (by first | omega | (simp only [List.length_append, List.length_cons, List.length_nil, List.length_take, List.length_drop]; omega)) rfl) Pr.one (by first | omega | (simp only [List.length_append, List.length_cons, List.length_nil, List.length_take, List.length_drop]; omega)) (by first | omega | (simp only [List.length_append, List.length_cons, List.length_nil, List.length_take, List.length_drop]; omega))) rfl ?_
    rintro V17 _ rfl
    refine O.p (Pu.assign rfl) rfl ?_
    refine O.p (Pu.assign rfl) rfl ?_
    refine O.nil ?_
    exact J.ret (Fin.ret (rs := [.tmp 6, .tmp 7]) rfl [_, _] ⟨rfl, rfl, trivial⟩ [1] (by decide) [row V17 98 2 ((((([] : List Pr) ++ (l.take ((k : Int)).toNat)) ++ ([(⟨c, j⟩ : Pr)])) ++ (l.drop ((k : Int)).toNat)).map Pr.cells)] rfl ⟨V17, rfl, congrArg (fun (z : List Pr) => ([row V17 98 2 (z.map Pr.cells)] : List Sp)) (show ((([] : List Pr) ++ (l.take ((k : Int)).toNat)) ++ ([(⟨c, j⟩ : Pr)])) ++ (l.drop ((k : Int)).toNat) = Wt.ins l c j from (by rw [← Wt.ins_place ha (by omega) (fun e_ he_ => (by rw [List.getElem?_eq_none (by omega)] at he_; cases he_))]; simp))⟩)

set_option maxRecDepth 100000 in
theorem n01_Same (av bv : Value) (l m : List Int) (hl : l.length ≤ 100000) (hm : m.length ≤ 100000) : Tri Try.prog 23 #[av, bv] [rd av 1 (l.map encZ), rd bv 1 (m.map encZ)] [] (fun v L' => v = .bool (decide (l = m)) ∧ L' = []) := by
  refine Tri.enter (args := [av, bv]) (body := _) 32 Try.func23 rfl Try.ntmps23 rfl ?_
  intro w0
  refine J.seq ?_
  refine J.region ?_
  refine O.p (Pu.assign rfl) rfl ?_
  refine O.nil ?_
  refine J.seq ?_
  refine J.seq ?_
  refine J.region ?_
  refine O.p (Pu.move rfl) rfl ?_
  refine O.q (Qt.lenM Try.runUnderlying24 rfl (Src.ro 0 rfl)) rfl ?_
  refine O.p (Pu.move rfl) rfl ?_
  refine O.q (Qt.lenM Try.runUnderlying24 rfl (Src.ro 1 rfl)) rfl ?_
  refine O.p (Pu.neq rfl rfl) rfl ?_
  refine O.nil ?_
  refine J.cond rfl (fun h1 => ?_) (fun h1 => ?_)
  ·
    have p2 := of_decide_eq_true h1
    refine J.seq ?_
    refine J.region ?_
    refine O.p (Pu.assign rfl) rfl ?_
    refine O.nil ?_
    exact J.ret (Fin.ret (rs := [.tmp 4]) rfl [_] ⟨rfl, trivial⟩ [] (by decide) [] rfl ⟨(by have h_ : l ≠ m := (fun h_ => by subst h_; omega); simp [h_, vOf]), rfl⟩)
  ·
    have p3 := of_decide_eq_false h1
    refine J.skip ?_
    refine J.seq ?_
    refine J.seq ?_
    refine J.region ?_
    refine O.p (Pu.assign rfl) rfl ?_
    refine O.nil ?_
    refine J.block ?_
    refine J.loop (X := Nat) (fun ξ => ξ ≤ l.length ∧ l.length = m.length ∧ l.take ξ = m.take ξ) (fun ξ => [(0, av), (1, bv), (5, .int .i64 (ξ : Int))]) (fun ξ => []) (fun ξ => l.length - ξ) 0 (show 0 ≤ l.length ∧ l.length = m.length ∧ l.take 0 = m.take 0 from ⟨by omega, by omega, rfl⟩) ⟨rfl, rfl, (congrArg (fun z => some (Value.int .i64 z)) (by first | rfl | omega : (0 : Int) = (0 : Int))), trivial⟩ [] (by decide) rfl ?_
    rintro k hq4
    obtain ⟨hk, hlm, hst⟩ : k ≤ l.length ∧ l.length = m.length ∧ l.take k = m.take k := hq4
    show J _ _ [(0, av), (1, bv), (5, .int .i64 (k : Int))] []
    refine J.seq ?_
    refine J.seq ?_
    refine J.region ?_
    refine O.p (Pu.move rfl) rfl ?_
    refine O.p (Pu.move rfl) rfl ?_
    refine O.q (Qt.lenM Try.runUnderlying24 rfl (Src.ro 0 rfl)) rfl ?_
    refine O.p (Pu.lss rfl rfl) rfl ?_
    refine O.p (Pu.move rfl) rfl ?_
    refine by_bool (decide ((k : Int) < (l.length : Int))) (fun h5 => ?_) (fun h5 => ?_)
    ·
      have p6 := of_decide_eq_true h5
      refine O.gq (t := 15) rfl rfl h5 rfl (Pu.qt (Pu.move rfl)) rfl ?_
      refine O.gq (t := 15) rfl rfl h5 rfl (Pu.qt (Pu.move rfl)) rfl ?_
      refine O.gq (t := 15) rfl rfl h5 rfl (Qt.lenM Try.runUnderlying24 rfl (Src.ro 1 rfl)) rfl ?_
      refine O.gq (t := 15) rfl rfl h5 rfl (Pu.qt (Pu.lss rfl rfl)) rfl ?_
      refine O.p (Pu.pickT rfl h5 rfl) rfl ?_
      refine O.nil ?_
      refine J.condT rfl (decide_eq_true (by omega)) ?_
      refine J.skip ?_
      refine J.seq ?_
      refine J.block ?_
      refine J.seq ?_
      refine J.drawStill Try.mixed (by kernel_rfl) ?_
      refine S.p (Pu.move rfl) rfl ?_
      refine S.p (Pu.move rfl) rfl ?_
      obtain ⟨e7, he7⟩ : ∃ x_, l[k]? = some x_ := ⟨_, List.getElem?_eq_getElem (by omega)⟩
      refine S.q (Qt.idxM Try.runUnderlying24 Try.sizeOf3 rfl (Src.ro 0 rfl) rfl (by omega) (by omega)) rfl ?_
      refine S.q (Qt.ld rfl (Cel.eltM (Src.ro 0 rfl) he7) (o := (voff av + k * 1)) (off := 0) (by omega) (Cut.one Try.isAgg3 rfl)) rfl ?_
      refine S.p (Pu.move rfl) rfl ?_
      refine S.p (Pu.move rfl) rfl ?_
      obtain ⟨e8, he8⟩ : ∃ x_, m[k]? = some x_ := ⟨_, List.getElem?_eq_getElem (by omega)⟩
      refine S.q (Qt.idxM Try.runUnderlying24 Try.sizeOf3 rfl (Src.ro 1 rfl) rfl (by omega) (by omega)) rfl ?_
      refine S.q (Qt.ld rfl (Cel.eltM (Src.ro 1 rfl) he8) (o := (voff bv + k * 1)) (off := 0) (by omega) (Cut.one Try.isAgg3 rfl)) rfl ?_
      refine S.p (Pu.neq rfl rfl) rfl ?_
      refine S.endJ ?_
      refine J.cond rfl (fun h9 => ?_) (fun h9 => ?_)
      ·
        have p10 := of_decide_eq_true h9
        refine J.seq ?_
        refine J.region ?_
        refine O.p (Pu.assign rfl) rfl ?_
        refine O.nil ?_
        exact J.ret (Fin.ret (rs := [.tmp 4]) rfl [_] ⟨rfl, trivial⟩ [] (by decide) [] rfl ⟨(by have h_ : l ≠ m := (fun h_ => by subst h_; have h2_ := he7.symm.trans he8; cases h2_; omega); simp [h_, vOf]), rfl⟩)
      ·
        have p11 := of_decide_eq_false h9
        refine J.skip ?_
        refine J.blk ?_
        refine J.region ?_
        refine O.p (Pu.move rfl) rfl ?_
        refine O.p (Pu.add' rfl rfl (by first | omega | (simp only [List.length_append, List.length_cons, List.length_nil, List.length_set]; omega))) rfl ?_
        refine O.p (Pu.assign rfl) rfl ?_
        refine O.nil ?_
        exact J.lp (k + 1) (show (k + 1) ≤ l.length ∧ l.length = m.length ∧ l.take (k + 1) = m.take (k + 1) from ⟨by omega, hlm, (by rw [List.take_add_one, List.take_add_one, hst, he7, he8, (Decidable.not_not.1 (by assumption) : e7 = e8)])⟩) (show l.length - (k + 1) < l.length - k from (by omega)) ⟨rfl, rfl, (congrArg (fun z => some (Value.int .i64 z)) (by first | rfl | omega : ((k : Int) + 1 : Int) = ((k + 1) : Int))), trivial⟩ [] (by decide) rfl
    ·
      have p12 := of_decide_eq_false h5
      refine O.gskip (t := 15) rfl rfl (no_bool (by rw [h5]; decide)) rfl rfl ?_
      refine O.gskip (t := 15) rfl rfl (no_bool (by rw [h5]; decide)) rfl rfl ?_
      refine O.gskip (t := 15) rfl rfl (no_bool (by rw [h5]; decide)) rfl rfl ?_
      refine O.gskip (t := 15) rfl rfl (no_bool (by rw [h5]; decide)) rfl rfl ?_
      refine O.p (Pu.pickF rfl h5 rfl) rfl ?_
      refine O.nil ?_
      refine J.condF rfl rfl ?_
      refine J.exit _ rfl ?_
      refine J.seq ?_
      refine J.region ?_
      refine O.p (Pu.assign rfl) rfl ?_
      refine O.nil ?_
      exact J.ret (Fin.ret (rs := [.tmp 4]) rfl [_] ⟨rfl, trivial⟩ [] (by decide) [] rfl ⟨(by have h_ : l = m := (by rw [List.take_of_length_le (by omega), List.take_of_length_le (by omega)] at hst; exact hst); simp [h_, vOf]), rfl⟩)

end Go.Proofs.Ytnkhmbbnabejhaa
