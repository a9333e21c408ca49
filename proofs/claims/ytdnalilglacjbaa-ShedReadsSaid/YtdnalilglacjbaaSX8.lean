/-
  Walks, printed by a program of mine (lk.py): each function meets its contract.
-/
import Derived.KernelRfl
import Derived.Test.YtdnalilglacjbaaSX7
namespace Go.Proofs.Ytdnalilglacjbaa
open Go Go.LK
set_option linter.unusedSimpArgs false

set_option maxRecDepth 100000 in
theorem r18_Of (lv : Value) (l : List Int) (h7 : l.length = 7) : Tri Try.prog 26 #[lv] [rd lv 1 (l.map encZ)] [] (fun v L' => v = .agg (l.map vI).toArray ∧ L' = []) := by
 refine Tri.enter (args := [lv]) (body := _) 25 Try.func26 rfl Try.ntmps26 rfl ?_
 intro w0
 refine J.seq ?_
 refine J.region ?_
 refine O.l (Lo.alloc [.int .i64 0, .int .i64 0, .int .i64 0, .int .i64 0, .int .i64 0, .int .i64 0, .int .i64 0] (by exact Try.zeroValue61) rfl) rfl ?_
 rintro _ _ ⟨g1, rfl, rfl⟩
 refine O.nil ?_
 refine J.seq ?_
 refine J.drawTail 22 Try.mixed (by kernel_rfl) ?_
 refine S.p (Pu.move rfl) rfl ?_
 obtain ⟨e2, he2⟩ : ∃ x_, l[0]? = some x_ := ⟨_, List.getElem?_eq_getElem (by omega)⟩
 refine S.q (Qt.idxM Try.runUnderlying63 Try.sizeOf3 rfl (Src.ro 0 rfl) rfl (by omega) (by omega)) rfl ?_
 refine S.q (Qt.ld rfl (Cel.eltM (Src.ro 0 rfl) he2) (o := (voff lv + 0 * 1)) (off := 0) (by omega) (Cut.one Try.isAgg3 rfl)) rfl ?_
 refine S.p (Pu.move rfl) rfl ?_
 obtain ⟨e3, he3⟩ : ∃ x_, l[1]? = some x_ := ⟨_, List.getElem?_eq_getElem (by omega)⟩
 refine S.q (Qt.idxM Try.runUnderlying63 Try.sizeOf3 rfl (Src.ro 0 rfl) rfl (by omega) (by omega)) rfl ?_
 refine S.q (Qt.ld rfl (Cel.eltM (Src.ro 0 rfl) he3) (o := (voff lv + 1 * 1)) (off := 0) (by omega) (Cut.one Try.isAgg3 rfl)) rfl ?_
 refine S.p (Pu.move rfl) rfl ?_
 obtain ⟨e4, he4⟩ : ∃ x_, l[2]? = some x_ := ⟨_, List.getElem?_eq_getElem (by omega)⟩
 refine S.q (Qt.idxM Try.runUnderlying63 Try.sizeOf3 rfl (Src.ro 0 rfl) rfl (by omega) (by omega)) rfl ?_
 refine S.q (Qt.ld rfl (Cel.eltM (Src.ro 0 rfl) he4) (o := (voff lv + 2 * 1)) (off := 0) (by omega) (Cut.one Try.isAgg3 rfl)) rfl ?_
 refine S.p (Pu.move rfl) rfl ?_
 obtain ⟨e5, he5⟩ : ∃ x_, l[3]? = some x_ := ⟨_, List.getElem?_eq_getElem (by omega)⟩
 refine S.q (Qt.idxM Try.runUnderlying63 Try.sizeOf3 rfl (Src.ro 0 rfl) rfl (by omega) (by omega)) rfl ?_
 refine S.q (Qt.ld rfl (Cel.eltM (Src.ro 0 rfl) he5) (o := (voff lv + 3 * 1)) (off := 0) (by omega) (Cut.one Try.isAgg3 rfl)) rfl ?_
 refine S.p (Pu.move rfl) rfl ?_
 obtain ⟨e6, he6⟩ : ∃ x_, l[4]? = some x_ := ⟨_, List.getElem?_eq_getElem (by omega)⟩
 refine S.q (Qt.idxM Try.runUnderlying63 Try.sizeOf3 rfl (Src.ro 0 rfl) rfl (by omega) (by omega)) rfl ?_
 refine S.q (Qt.ld rfl (Cel.eltM (Src.ro 0 rfl) he6) (o := (voff lv + 4 * 1)) (off := 0) (by omega) (Cut.one Try.isAgg3 rfl)) rfl ?_
 refine S.p (Pu.move rfl) rfl ?_
 obtain ⟨e7, he7⟩ : ∃ x_, l[5]? = some x_ := ⟨_, List.getElem?_eq_getElem (by omega)⟩
 refine S.q (Qt.idxM Try.runUnderlying63 Try.sizeOf3 rfl (Src.ro 0 rfl) rfl (by omega) (by omega)) rfl ?_
 refine S.q (Qt.ld rfl (Cel.eltM (Src.ro 0 rfl) he7) (o := (voff lv + 5 * 1)) (off := 0) (by omega) (Cut.one Try.isAgg3 rfl)) rfl ?_
 refine S.p (Pu.move rfl) rfl ?_
 obtain ⟨e8, he8⟩ : ∃ x_, l[6]? = some x_ := ⟨_, List.getElem?_eq_getElem (by omega)⟩
 refine S.q (Qt.idxM Try.runUnderlying63 Try.sizeOf3 rfl (Src.ro 0 rfl) rfl (by omega) (by omega)) rfl ?_
 refine S.q (Qt.ld rfl (Cel.eltM (Src.ro 0 rfl) he8) (o := (voff lv + 6 * 1)) (off := 0) (by omega) (Cut.one Try.isAgg3 rfl)) rfl ?_
 refine S.p (Pu.build [(0, .int .i64 e2), (1, .int .i64 e3), (2, .int .i64 e4), (3, .int .i64 e5), (4, .int .i64 e6), (5, .int .i64 e7), (6, .int .i64 e8)] [.int .i64 e2, .int .i64 e3, .int .i64 e4, .int .i64 e5, .int .i64 e6, .int .i64 e7, .int .i64 e8] #[(0, 1), (1, 1), (2, 1), (3, 1), (4, 1), (5, 1), (6, 1)] Try.runUnderlying61 Try.zeroValue61 (places61 Try.underlying61) rfl (by kernel_rfl)) rfl ?_
 refine S.endO ?_
 refine O.l0 (Lo.store 0 (vs := [.int .i64 e2, .int .i64 e3, .int .i64 e4, .int .i64 e5, .int .i64 e6, .int .i64 e7, .int .i64 e8]) [.int .i64 e2, .int .i64 e3, .int .i64 e4, .int .i64 e5, .int .i64 e6, .int .i64 e7, .int .i64 e8] rfl rfl rfl (by exact Try.sizeOf61) rfl rfl rfl rfl rfl) ?_
 rintro _ _ rfl
 refine O.nil ?_
 exact J.ret (Fin.ret (rs := [.cell 2 61]) rfl [_] ⟨⟨_, _, 0, 0, _, rfl, (Cel.var 0 rfl), rfl, (Cut.agg [.int .i64 e2, .int .i64 e3, .int .i64 e4, .int .i64 e5, .int .i64 e6, .int .i64 e7, .int .i64 e8] Try.isAgg61 Try.sizeOf61 rfl rfl)⟩, trivial⟩ [] (by decide) [] rfl ⟨(by rw [Sh.list7 h7 he2 he3 he4 he5 he6 he7 he8]; rfl), rfl⟩)

theorem r18_Of_eq (lv : Value) : Tri Try.prog 26 #[lv] [rd lv 1 (([1, 4, 10, 5, 1, 3, 2] : List Int).map encZ)] [] (fun v L' => v = .agg #[.int .i64 1, .int .i64 4, .int .i64 10, .int .i64 5, .int .i64 1, .int .i64 3, .int .i64 2] ∧ L' = []) := r18_Of lv [1, 4, 10, 5, 1, 3, 2] rfl

set_option maxRecDepth 100000 in
set_option maxHeartbeats 1000000 in
theorem r30_Usual (n : Nat) (hn : n ≤ 10) : Tri Try.prog 14 #[.int .i64 (n : Int)] [] [] (fun v L' => ∃ (V : Value) (o : List Svc), v = .agg #[.int .i64 2, .int .i64 4, .int .i64 1000, .int .u64 1, V] ∧ o.length = n ∧ (∀ x ∈ o, x.ttl = 20) ∧ L' = [row V 66 14 (o.map Svc.cells)]) := by
 refine Tri.enter (args := [.int .i64 (n : Int)]) (body := _) 34 Try.func14 rfl Try.ntmps14 rfl ?_
 intro w0
 refine J.seq ?_
 refine J.region ?_
 refine O.l (Lo.alloc [.int .i64 0, .int .i64 0, .int .i64 0, .int .u64 0, Value.slice none 0 0] (by exact Try.zeroValue25) rfl) rfl ?_
 rintro _ _ ⟨g1, rfl, rfl⟩
 refine O.nil ?_
 refine J.seq ?_
 refine J.region ?_
 refine O.p (Pu.build [(0, .int .i64 2), (1, .int .i64 4), (2, .int .i64 1000), (3, .int .u64 1)] [.int .i64 2, .int .i64 4, .int .i64 1000, .int .u64 1, Value.slice none 0 0] #[(0, 1), (1, 1), (2, 1), (3, 1), (4, 1)] Try.runUnderlying25 Try.zeroValue25 (places25 Try.underlying25) rfl (by kernel_rfl)) rfl ?_
 refine O.l (Lo.alloc [.int .i64 0, .int .i64 0, .int .i64 0, .int .u64 0, Value.slice none 0 0] (by exact Try.zeroValue25) rfl) rfl ?_
 rintro _ _ ⟨g2, rfl, rfl⟩
 refine O.l0 (Lo.store 0 (vs := [.int .i64 2, .int .i64 4, .int .i64 1000, .int .u64 1, Value.slice none 0 0]) [.int .i64 2, .int .i64 4, .int .i64 1000, .int .u64 1, Value.slice none 0 0] rfl rfl rfl (by exact Try.sizeOf25) rfl rfl rfl rfl rfl) ?_
 rintro _ _ rfl
 refine O.nil ?_
 refine J.seq ?_
 refine J.seq ?_
 refine J.region ?_
 refine O.p (Pu.assign rfl) rfl ?_
 refine O.nil ?_
 refine J.block ?_
 refine J.nilRow 66 14 ?_
 refine J.loop (X := Nat × Value × List Svc) (fun ξ => ξ.1 ≤ n ∧ ξ.2.2.length = ξ.1 ∧ ∀ x ∈ ξ.2.2, x.ttl = 20) (fun ξ => [(0, .int .i64 (n : Int)), (2, .pointer (some ⟨g1, 0, none⟩)), (3, .pointer (some ⟨g2, 0, none⟩)), (4, .int .i64 (ξ.1 : Int))]) (fun ξ => [var g1 [.int .i64 0, .int .i64 0, .int .i64 0, .int .u64 0, Value.slice none 0 0] 25, var g2 [.int .i64 2, .int .i64 4, .int .i64 1000, .int .u64 1, ξ.2.1] 25, row ξ.2.1 66 14 (ξ.2.2.map Svc.cells)]) (fun ξ => n - ξ.1) ⟨0, Value.slice none 0 0, ([] : List Svc)⟩ (show 0 ≤ n ∧ ([] : List Svc).length = 0 ∧ ∀ x ∈ ([] : List Svc), x.ttl = 20 from ⟨by omega, rfl, by simp⟩) ⟨rfl, rfl, rfl, (congrArg (fun z => some (Value.int .i64 z)) (by first | rfl | omega : (0 : Int) = (0 : Int))), trivial⟩ [2, 1, 0] (by decide) rfl ?_
 rintro ⟨k, V, o⟩ hq3
 obtain ⟨hk, ho, hot⟩ : k ≤ n ∧ o.length = k ∧ ∀ x ∈ o, x.ttl = 20 := hq3
 show J _ _ [(0, .int .i64 (n : Int)), (2, .pointer (some ⟨g1, 0, none⟩)), (3, .pointer (some ⟨g2, 0, none⟩)), (4, .int .i64 (k : Int))] [var g1 [.int .i64 0, .int .i64 0, .int .i64 0, .int .u64 0, Value.slice none 0 0] 25, var g2 [.int .i64 2, .int .i64 4, .int .i64 1000, .int .u64 1, V] 25, row V 66 14 (o.map Svc.cells)]
 refine J.seq ?_
 refine J.seq ?_
 refine J.region ?_
 refine O.p (Pu.move rfl) rfl ?_
 refine O.p (Pu.move rfl) rfl ?_
 refine O.p (Pu.lss rfl rfl) rfl ?_
 refine O.nil ?_
 refine J.cond rfl (fun h4 => ?_) (fun h4 => ?_)
 ·
  have p5 := of_decide_eq_true h4
  refine J.skip ?_
  refine J.seq ?_
  refine J.block ?_
  refine J.seq ?_
  refine J.region ?_
  refine O.l (Lo.buildM (s := 1) encZ [1, 4, 10, 5, 1, 3, 2] [(0, .int .i64 1), (1, .int .i64 4), (2, .int .i64 10), (3, .int .i64 5), (4, .int .i64 1), (5, .int .i64 3), (6, .int .i64 2)] (by exact Try.runUnderlying63) (by exact Try.sizeOf3) (by exact Try.zeroValue3) rfl rfl rfl (by kernel_rfl) rfl rfl) rfl ?_
  rintro V6 _ rfl
  refine O.l (Lo.call [V6] (by exact Try.call26) rfl (r18_Of_eq V6) [] [0, 1, 2, 3] (by decide) rfl [row V6 3 1 (([1, 4, 10, 5, 1, 3, 2]).map encZ), var g1 [.int .i64 0, .int .i64 0, .int .i64 0, .int .u64 0, Value.slice none 0 0] 25, var g2 [.int .i64 2, .int .i64 4, .int .i64 1000, .int .u64 1, V] 25, row V 66 14 (o.map Svc.cells)] rfl (RoOk.of 0 rfl row_rd [] (by decide) rfl RoOk.nil)) rfl ?_
  rintro _ _ ⟨_, ⟨rfl, rfl⟩, rfl⟩
  refine O.p (Pu.build [(0, .int .i64 1), (1, .int .i64 4), (2, .int .i64 10), (3, .int .i64 1), (4, .int .i64 64), (5, .int .i64 20), (6, .agg #[.int .i64 1, .int .i64 4, .int .i64 10, .int .i64 5, .int .i64 1, .int .i64 3, .int .i64 2])] [.int .i64 1, .int .i64 4, .int .i64 10, .int .i64 1, .int .i64 64, .int .i64 20, .int .i64 1, .int .i64 4, .int .i64 10, .int .i64 5, .int .i64 1, .int .i64 3, .int .i64 2, Value.slice none 0 0] #[(0, 1), (1, 1), (2, 1), (3, 1), (4, 1), (5, 1), (6, 7), (13, 1)] Try.runUnderlying66 Try.zeroValue66 (places66 Try.underlying66) rfl (by kernel_rfl)) rfl ?_
  refine O.l (Lo.alloc [.int .i64 0, .int .i64 0, .int .i64 0, .int .i64 0, .int .i64 0, .int .i64 0, .int .i64 0, .int .i64 0, .int .i64 0, .int .i64 0, .int .i64 0, .int .i64 0, .int .i64 0, Value.slice none 0 0] (by exact Try.zeroValue66) rfl) rfl ?_
  rintro _ _ ⟨g8, rfl, rfl⟩
  refine O.l0 (Lo.store 0 (vs := [.int .i64 1, .int .i64 4, .int .i64 10, .int .i64 1, .int .i64 64, .int .i64 20, .int .i64 1, .int .i64 4, .int .i64 10, .int .i64 5, .int .i64 1, .int .i64 3, .int .i64 2, Value.slice none 0 0]) [.int .i64 1, .int .i64 4, .int .i64 10, .int .i64 1, .int .i64 64, .int .i64 20, .int .i64 1, .int .i64 4, .int .i64 10, .int .i64 5, .int .i64 1, .int .i64 3, .int .i64 2, Value.slice none 0 0] rfl rfl rfl (by exact Try.sizeOf66) rfl rfl rfl rfl rfl) ?_
  rintro _ _ rfl
  refine O.nil ?_
  refine J.seq ?_
  refine J.seq ?_
  refine J.region ?_
  refine O.p (Pu.move rfl) rfl ?_
  refine O.p (Pu.move rfl) rfl ?_
  refine O.p (Pu.sub' rfl rfl (by omega)) rfl ?_
  refine O.p (Pu.lss rfl rfl) rfl ?_
  refine O.nil ?_
  refine J.cond rfl (fun h9 => ?_) (fun h9 => ?_)
  ·
   have p10 := of_decide_eq_true h9
   refine J.region ?_
   refine O.p (Pu.fieldAddr (off' := 13) Try.runUnderlying66 rfl Try.sizeOf64 rfl rfl rfl) rfl ?_
   refine O.q (Qt.ld rfl (Cel.var 0 rfl) (o := 0) (off := 13) rfl (Cut.one Try.isAgg64 rfl)) rfl ?_
   refine O.p (Pu.move rfl) rfl ?_
   refine O.p (Pu.add' rfl rfl (by omega)) rfl ?_
   refine O.p (Pu.build [(0, .int .i64 ((k : Int) + 1)), (2, .int .i64 6), (3, .int .i64 20)] [.int .i64 ((k : Int) + 1), .int .i64 0, .int .i64 6, .int .i64 20] #[(0, 1), (1, 1), (2, 1), (3, 1)] Try.runUnderlying68 Try.zeroValue68 (places68 Try.underlying68) rfl (by kernel_rfl)) rfl ?_
   refine O.l (Lo.buildM (s := 4) Cq.cells [(⟨(k : Int) + 1, 0, 6, 20⟩ : Cq)] [(0, .agg #[.int .i64 ((k : Int) + 1), .int .i64 0, .int .i64 6, .int .i64 20])] (by exact Try.runUnderlying64) (by exact Try.sizeOf68) (by exact Try.zeroValue68) rfl rfl rfl (by kernel_rfl) rfl rfl) rfl ?_
   rintro V11 _ rfl
   refine O.nilRow 68 4 ?_
   show O _ _ _ _ _ [row (Value.slice none 0 0) 68 4 (([] : List Cq).map Cq.cells), row V11 68 4 (([(⟨(k : Int) + 1, 0, 6, 20⟩ : Cq)]).map Cq.cells), var g8 [.int .i64 1, .int .i64 4, .int .i64 10, .int .i64 1, .int .i64 64, .int .i64 20, .int .i64 1, .int .i64 4, .int .i64 10, .int .i64 5, .int .i64 1, .int .i64 3, .int .i64 2, Value.slice none 0 0] 66, row V6 3 1 (([1, 4, 10, 5, 1, 3, 2]).map encZ), var g1 [.int .i64 0, .int .i64 0, .int .i64 0, .int .u64 0, Value.slice none 0 0] 25, var g2 [.int .i64 2, .int .i64 4, .int .i64 1000, .int .u64 1, V] 25, row V 66 14 (o.map Svc.cells)]
   refine O.l (Lo.appendM (s := 4) 0 (by exact Try.underlying64) (by exact (info68).1) (by exact (info68).2.1) (by exact (info68).2.2.1) (by exact (info68).2.2.2) rfl rfl rfl rfl rfl (Src.row 1 rfl) Cq.one (by first | omega | (simp only [List.length_append, List.length_cons, List.length_nil]; omega)) (by first | omega | (simp only [List.length_append, List.length_cons, List.length_nil]; omega))) rfl ?_
   rintro V12 _ rfl
   refine O.p (Pu.fieldAddr (off' := 13) Try.runUnderlying66 rfl Try.sizeOf64 rfl rfl rfl) rfl ?_
   refine O.one (Src.row 0 rfl) (fun hV13 => ?_)
   refine O.l0 (Lo.store 2 (vs := [V12]) [.int .i64 1, .int .i64 4, .int .i64 10, .int .i64 1, .int .i64 64, .int .i64 20, .int .i64 1, .int .i64 4, .int .i64 10, .int .i64 5, .int .i64 1, .int .i64 3, .int .i64 2, V12] rfl rfl rfl (by exact Try.sizeOf64) (one_cells hV13) rfl (one_all hV13) rfl rfl) ?_
   rintro _ _ rfl
   refine O.nil ?_
   refine J.region ?_
   refine O.p (Pu.fieldAddr (off' := 4) Try.runUnderlying25 rfl Try.sizeOf23 rfl rfl rfl) rfl ?_
   refine O.q (Qt.ld rfl (Cel.var 5 rfl) (o := 0) (off := 4) rfl (Cut.one Try.isAgg23 rfl)) rfl ?_
   refine O.q (Qt.ld rfl (Cel.var 2 rfl) (o := 0) (off := 0) rfl (Cut.agg [.int .i64 1, .int .i64 4, .int .i64 10, .int .i64 1, .int .i64 64, .int .i64 20, .int .i64 1, .int .i64 4, .int .i64 10, .int .i64 5, .int .i64 1, .int .i64 3, .int .i64 2, V12] Try.isAgg66 Try.sizeOf66 rfl rfl)) rfl ?_
   refine O.l (Lo.buildM (s := 14) Svc.cells [(⟨1, 4, 10, 1, 64, 20, 1, 4, 10, 5, 1, 3, 2, V12, ‹_›⟩ : Svc)] [(0, .agg #[.int .i64 1, .int .i64 4, .int .i64 10, .int .i64 1, .int .i64 64, .int .i64 20, .int .i64 1, .int .i64 4, .int .i64 10, .int .i64 5, .int .i64 1, .int .i64 3, .int .i64 2, V12])] (by exact Try.runUnderlying23) (by exact Try.sizeOf66) (by exact Try.zeroValue66) rfl rfl rfl (by cases V12 <;> first | (simp [Value.oneCell'] at hV13; done) | kernel_rfl) rfl rfl) rfl ?_
   rintro V14 _ rfl
   refine O.l (Lo.appendM (s := 14) 7 (by exact Try.underlying23) (by exact (info66).1) (by exact (info66).2.1) (by exact (info66).2.2.1) (by exact (info66).2.2.2) rfl rfl rfl rfl rfl (Src.row 0 rfl) Svc.one (by first | omega | (simp only [List.length_append, List.length_cons, List.length_nil]; omega)) (by first | omega | (simp only [List.length_append, List.length_cons, List.length_nil]; omega))) rfl ?_
   rintro V15 _ rfl
   refine O.p (Pu.fieldAddr (off' := 4) Try.runUnderlying25 rfl Try.sizeOf23 rfl rfl rfl) rfl ?_
   refine O.one (Src.row 7 rfl) (fun hV16 => ?_)
   refine O.l0 (Lo.store 6 (vs := [V15]) [.int .i64 2, .int .i64 4, .int .i64 1000, .int .u64 1, V15] rfl rfl rfl (by exact Try.sizeOf23) (one_cells hV16) rfl (one_all hV16) rfl rfl) ?_
   rintro _ _ rfl
   refine O.nil ?_
   refine J.blk ?_
   refine J.region ?_
   refine O.p (Pu.move rfl) rfl ?_
   refine O.p (Pu.add' rfl rfl (by omega)) rfl ?_
   refine O.p (Pu.assign rfl) rfl ?_
   refine O.nil ?_
   exact J.lp ⟨k + 1, V15, o ++ ([(⟨1, 4, 10, 1, 64, 20, 1, 4, 10, 5, 1, 3, 2, V12, ‹_›⟩ : Svc)])⟩ (show (k + 1) ≤ n ∧ (o ++ ([(⟨1, 4, 10, 1, 64, 20, 1, 4, 10, 5, 1, 3, 2, V12, ‹_›⟩ : Svc)])).length = (k + 1) ∧ ∀ x ∈ (o ++ ([(⟨1, 4, 10, 1, 64, 20, 1, 4, 10, 5, 1, 3, 2, V12, ‹_›⟩ : Svc)])), x.ttl = 20 from ⟨by omega, Sh.ttl_add ho hot rfl⟩) (show n - (k + 1) < n - k from (by first | omega | (simp only [List.length_append, List.length_cons, List.length_nil]; omega))) ⟨rfl, rfl, rfl, (congrArg (fun z => some (Value.int .i64 z)) (by first | rfl | omega : ((k : Int) + 1 : Int) = ((k + 1) : Int))), trivial⟩ [5, 6, 7] (by decide) rfl
  ·
   have p17 := of_decide_eq_false h9
   refine J.skip ?_
   refine J.region ?_
   refine O.p (Pu.fieldAddr (off' := 4) Try.runUnderlying25 rfl Try.sizeOf23 rfl rfl rfl) rfl ?_
   refine O.q (Qt.ld rfl (Cel.var 3 rfl) (o := 0) (off := 4) rfl (Cut.one Try.isAgg23 rfl)) rfl ?_
   refine O.q (Qt.ld rfl (Cel.var 0 rfl) (o := 0) (off := 0) rfl (Cut.agg [.int .i64 1, .int .i64 4, .int .i64 10, .int .i64 1, .int .i64 64, .int .i64 20, .int .i64 1, .int .i64 4, .int .i64 10, .int .i64 5, .int .i64 1, .int .i64 3, .int .i64 2, Value.slice none 0 0] Try.isAgg66 Try.sizeOf66 rfl rfl)) rfl ?_
   refine O.l (Lo.buildM (s := 14) Svc.cells [(⟨1, 4, 10, 1, 64, 20, 1, 4, 10, 5, 1, 3, 2, Value.slice none 0 0, rfl⟩ : Svc)] [(0, .agg #[.int .i64 1, .int .i64 4, .int .i64 10, .int .i64 1, .int .i64 64, .int .i64 20, .int .i64 1, .int .i64 4, .int .i64 10, .int .i64 5, .int .i64 1, .int .i64 3, .int .i64 2, Value.slice none 0 0])] (by exact Try.runUnderlying23) (by exact Try.sizeOf66) (by exact Try.zeroValue66) rfl rfl rfl (by kernel_rfl) rfl rfl) rfl ?_
   rintro V18 _ rfl
   refine O.l (Lo.appendM (s := 14) 5 (by exact Try.underlying23) (by exact (info66).1) (by exact (info66).2.1) (by exact (info66).2.2.1) (by exact (info66).2.2.2) rfl rfl rfl rfl rfl (Src.row 0 rfl) Svc.one (by first | omega | (simp only [List.length_append, List.length_cons, List.length_nil]; omega)) (by first | omega | (simp only [List.length_append, List.length_cons, List.length_nil]; omega))) rfl ?_
   rintro V19 _ rfl
   refine O.p (Pu.fieldAddr (off' := 4) Try.runUnderlying25 rfl Try.sizeOf23 rfl rfl rfl) rfl ?_
   refine O.one (Src.row 5 rfl) (fun hV20 => ?_)
   refine O.l0 (Lo.store 4 (vs := [V19]) [.int .i64 2, .int .i64 4, .int .i64 1000, .int .u64 1, V19] rfl rfl rfl (by exact Try.sizeOf23) (one_cells hV20) rfl (one_all hV20) rfl rfl) ?_
   rintro _ _ rfl
   refine O.nil ?_
   refine J.blk ?_
   refine J.region ?_
   refine O.p (Pu.move rfl) rfl ?_
   refine O.p (Pu.add' rfl rfl (by omega)) rfl ?_
   refine O.p (Pu.assign rfl) rfl ?_
   refine O.nil ?_
   exact J.lp ⟨k + 1, V19, o ++ ([(⟨1, 4, 10, 1, 64, 20, 1, 4, 10, 5, 1, 3, 2, Value.slice none 0 0, rfl⟩ : Svc)])⟩ (show (k + 1) ≤ n ∧ (o ++ ([(⟨1, 4, 10, 1, 64, 20, 1, 4, 10, 5, 1, 3, 2, Value.slice none 0 0, rfl⟩ : Svc)])).length = (k + 1) ∧ ∀ x ∈ (o ++ ([(⟨1, 4, 10, 1, 64, 20, 1, 4, 10, 5, 1, 3, 2, Value.slice none 0 0, rfl⟩ : Svc)])), x.ttl = 20 from ⟨by omega, Sh.ttl_add ho hot rfl⟩) (show n - (k + 1) < n - k from (by first | omega | (simp only [List.length_append, List.length_cons, List.length_nil]; omega))) ⟨rfl, rfl, rfl, (congrArg (fun z => some (Value.int .i64 z)) (by first | rfl | omega : ((k : Int) + 1 : Int) = ((k + 1) : Int))), trivial⟩ [3, 4, 5] (by decide) rfl
 ·
  have p21 := of_decide_eq_false h4
  refine J.exit _ rfl ?_
  refine J.seq ?_
  refine J.region ?_
  refine O.q (Qt.ld rfl (Cel.var 1 rfl) (o := 0) (off := 0) rfl (Cut.agg [.int .i64 2, .int .i64 4, .int .i64 1000, .int .u64 1, V] Try.isAgg25 Try.sizeOf25 rfl rfl)) rfl ?_
  refine O.one (Src.row 2 rfl) (fun hV22 => ?_)
  refine O.l0 (Lo.store 0 (vs := [.int .i64 2, .int .i64 4, .int .i64 1000, .int .u64 1, V]) [.int .i64 2, .int .i64 4, .int .i64 1000, .int .u64 1, V] rfl rfl rfl (by exact Try.sizeOf25) rfl rfl (by simp only [List.all_cons, List.all_nil, Bool.and_true, hV22] <;> rfl) rfl rfl) ?_
  rintro _ _ rfl
  refine O.nil ?_
  exact J.ret (Fin.ret (rs := [.cell 2 25]) rfl [_] ⟨⟨_, _, 0, 0, _, rfl, (Cel.var 0 rfl), rfl, (Cut.agg [.int .i64 2, .int .i64 4, .int .i64 1000, .int .u64 1, V] Try.isAgg25 Try.sizeOf25 rfl rfl)⟩, trivial⟩ [2] (by decide) [row V 66 14 (o.map Svc.cells)] rfl ⟨V, o, rfl, by omega, hot, rfl⟩)

theorem sd_Wrong_4 (sv : Value) (o : List Svc) (lv : Value) (h : o.length = 2) (ht : ∀ x ∈ o, x.ttl = 20) : Tri Try.prog 7 #[.agg #[.int .i64 2, .int .i64 4, .int .i64 1000, .int .u64 1, sv], lv] [rd sv 14 (o.map Svc.cells), rd lv 7 (([Sh.evA, Sh.evB, Sh.evC, Sh.evD] : List Ev).map Ev.cells)] [] (fun v L' => v = .tuple #[.int .i64 0, .bool false] ∧ L' = []) := by
  have q := sd_Wrong 2 4 1000 1 sv o lv [Sh.evA, Sh.evB, Sh.evC, Sh.evD] (by decide) (by omega) (by decide) (by decide)
  rw [Sh.awk1 h ht] at q
  exact q
theorem sd_Wrong_3 (sv : Value) (o : List Svc) (lv : Value) (h : o.length = 2) (ht : ∀ x ∈ o, x.ttl = 20) : Tri Try.prog 7 #[.agg #[.int .i64 2, .int .i64 4, .int .i64 1000, .int .u64 1, sv], lv] [rd sv 14 (o.map Svc.cells), rd lv 7 (([Sh.evB, Sh.evC, Sh.evD] : List Ev).map Ev.cells)] [] (fun v L' => v = .tuple #[.int .i64 2, .bool true] ∧ L' = []) := by
  have q := sd_Wrong 2 4 1000 1 sv o lv [Sh.evB, Sh.evC, Sh.evD] (by decide) (by omega) (by decide) (by decide)
  rw [Sh.awk2 h ht] at q
  exact q

set_option maxRecDepth 100000 in
set_option maxHeartbeats 1000000 in
theorem l43_awake  : Tri Try.prog 4 #[] [] [] (fun v L' => v = .bool true ∧ L' = []) := by
 refine Tri.enter (args := []) (body := _) 56 Try.func4 rfl Try.ntmps4 rfl ?_
 intro w0
 refine J.seq ?_
 refine J.region ?_
 refine O.p (Pu.assign rfl) rfl ?_
 refine O.nil ?_
 refine J.seq ?_
 refine J.region ?_
 refine O.p (Pu.build [(0, .int .i64 9), (2, .int .i64 1), (3, .int .i64 5), (5, .int .i64 3)] [.int .i64 9, .int .i64 0, .int .i64 1, .int .i64 5, .int .i64 0, .int .i64 3, .int .i64 0] #[(0, 1), (1, 1), (2, 1), (3, 1), (4, 1), (5, 1), (6, 1)] Try.runUnderlying45 Try.zeroValue45 (places45 Try.underlying45) rfl (by kernel_rfl)) rfl ?_
 refine O.p (Pu.build [(0, .int .i64 8), (3, .int .i64 5), (5, .int .i64 1), (6, .int .i64 3)] [.int .i64 8, .int .i64 0, .int .i64 0, .int .i64 5, .int .i64 0, .int .i64 1, .int .i64 3] #[(0, 1), (1, 1), (2, 1), (3, 1), (4, 1), (5, 1), (6, 1)] Try.runUnderlying45 Try.zeroValue45 (places45 Try.underlying45) rfl (by kernel_rfl)) rfl ?_
 refine O.l (Lo.alloc [.int .i64 0, .int .i64 0, .int .i64 0, .int .i64 0, .int .i64 0, .int .i64 0, .int .i64 0] (by exact Try.zeroValue45) rfl) rfl ?_
 rintro _ _ ⟨g1, rfl, rfl⟩
 refine O.l (Lo.alloc [.int .i64 0, .int .i64 0, .int .i64 0, .int .i64 0, .int .i64 0, .int .i64 0, .int .i64 0] (by exact Try.zeroValue45) rfl) rfl ?_
 rintro _ _ ⟨g2, rfl, rfl⟩
 refine O.l0 (Lo.store 1 (vs := [.int .i64 9, .int .i64 0, .int .i64 1, .int .i64 5, .int .i64 0, .int .i64 3, .int .i64 0]) [.int .i64 9, .int .i64 0, .int .i64 1, .int .i64 5, .int .i64 0, .int .i64 3, .int .i64 0] rfl rfl rfl (by exact Try.sizeOf45) rfl rfl rfl rfl rfl) ?_
 rintro _ _ rfl
 refine O.l0 (Lo.store 0 (vs := [.int .i64 8, .int .i64 0, .int .i64 0, .int .i64 5, .int .i64 0, .int .i64 1, .int .i64 3]) [.int .i64 8, .int .i64 0, .int .i64 0, .int .i64 5, .int .i64 0, .int .i64 1, .int .i64 3] rfl rfl rfl (by exact Try.sizeOf45) rfl rfl rfl rfl rfl) ?_
 rintro _ _ rfl
 refine O.nil ?_
 refine J.seq ?_
 refine J.region ?_
 refine O.p (Pu.build [(0, .int .i64 1), (3, .int .i64 9), (5, .int .i64 3)] [.int .i64 1, .int .i64 0, .int .i64 0, .int .i64 9, .int .i64 0, .int .i64 3, .int .i64 0] #[(0, 1), (1, 1), (2, 1), (3, 1), (4, 1), (5, 1), (6, 1)] Try.runUnderlying45 Try.zeroValue45 (places45 Try.underlying45) rfl (by kernel_rfl)) rfl ?_
 refine O.p (Pu.build [(0, .int .i64 6), (3, .int .i64 9), (4, .int .i64 8), (5, .int .i64 1)] [.int .i64 6, .int .i64 0, .int .i64 0, .int .i64 9, .int .i64 8, .int .i64 1, .int .i64 0] #[(0, 1), (1, 1), (2, 1), (3, 1), (4, 1), (5, 1), (6, 1)] Try.runUnderlying45 Try.zeroValue45 (places45 Try.underlying45) rfl (by kernel_rfl)) rfl ?_
 refine O.l (Lo.alloc [.int .i64 0, .int .i64 0, .int .i64 0, .int .i64 0, .int .i64 0, .int .i64 0, .int .i64 0] (by exact Try.zeroValue45) rfl) rfl ?_
 rintro _ _ ⟨g3, rfl, rfl⟩
 refine O.l (Lo.alloc [.int .i64 0, .int .i64 0, .int .i64 0, .int .i64 0, .int .i64 0, .int .i64 0, .int .i64 0] (by exact Try.zeroValue45) rfl) rfl ?_
 rintro _ _ ⟨g4, rfl, rfl⟩
 refine O.l0 (Lo.store 1 (vs := [.int .i64 1, .int .i64 0, .int .i64 0, .int .i64 9, .int .i64 0, .int .i64 3, .int .i64 0]) [.int .i64 1, .int .i64 0, .int .i64 0, .int .i64 9, .int .i64 0, .int .i64 3, .int .i64 0] rfl rfl rfl (by exact Try.sizeOf45) rfl rfl rfl rfl rfl) ?_
 rintro _ _ rfl
 refine O.l0 (Lo.store 0 (vs := [.int .i64 6, .int .i64 0, .int .i64 0, .int .i64 9, .int .i64 8, .int .i64 1, .int .i64 0]) [.int .i64 6, .int .i64 0, .int .i64 0, .int .i64 9, .int .i64 8, .int .i64 1, .int .i64 0] rfl rfl rfl (by exact Try.sizeOf45) rfl rfl rfl rfl rfl) ?_
 rintro _ _ rfl
 refine O.nil ?_
 refine J.seq ?_
 refine J.region ?_
 refine O.l (Lo.call [.int .i64 2] (by exact Try.call14) rfl (r30_Usual 2 (by decide)) [] [0, 1, 2, 3] (by decide) rfl [var g4 [.int .i64 6, .int .i64 0, .int .i64 0, .int .i64 9, .int .i64 8, .int .i64 1, .int .i64 0] 45, var g3 [.int .i64 1, .int .i64 0, .int .i64 0, .int .i64 9, .int .i64 0, .int .i64 3, .int .i64 0] 45, var g2 [.int .i64 8, .int .i64 0, .int .i64 0, .int .i64 5, .int .i64 0, .int .i64 1, .int .i64 3] 45, var g1 [.int .i64 9, .int .i64 0, .int .i64 1, .int .i64 5, .int .i64 0, .int .i64 3, .int .i64 0] 45] rfl RoOk.nil) rfl ?_
 rintro _ _ ⟨_, ⟨V5, o6, rfl, ho7, ht8, rfl⟩, rfl⟩
 refine O.l (Lo.alloc [.int .i64 0, .int .i64 0, .int .i64 0, .int .u64 0, Value.slice none 0 0] (by exact Try.zeroValue25) rfl) rfl ?_
 rintro _ _ ⟨g10, rfl, rfl⟩
 refine O.one (Src.row 1 rfl) (fun hV11 => ?_)
 refine O.l0 (Lo.store 0 (vs := [.int .i64 2, .int .i64 4, .int .i64 1000, .int .u64 1, V5]) [.int .i64 2, .int .i64 4, .int .i64 1000, .int .u64 1, V5] rfl rfl rfl (by exact Try.sizeOf25) rfl rfl (by simp only [List.all_cons, List.all_nil, Bool.and_true, hV11] <;> rfl) rfl rfl) ?_
 rintro _ _ rfl
 refine O.nil ?_
 refine J.seq ?_
 refine J.region ?_
 refine O.q (Qt.ld rfl (Cel.var 0 rfl) (o := 0) (off := 0) rfl (Cut.agg [.int .i64 2, .int .i64 4, .int .i64 1000, .int .u64 1, V5] Try.isAgg25 Try.sizeOf25 rfl rfl)) rfl ?_
 refine O.q (Qt.ld rfl (Cel.var 5 rfl) (o := 0) (off := 0) rfl (Cut.agg [.int .i64 9, .int .i64 0, .int .i64 1, .int .i64 5, .int .i64 0, .int .i64 3, .int .i64 0] Try.isAgg45 Try.sizeOf45 rfl rfl)) rfl ?_
 refine O.q (Qt.ld rfl (Cel.var 4 rfl) (o := 0) (off := 0) rfl (Cut.agg [.int .i64 8, .int .i64 0, .int .i64 0, .int .i64 5, .int .i64 0, .int .i64 1, .int .i64 3] Try.isAgg45 Try.sizeOf45 rfl rfl)) rfl ?_
 refine O.q (Qt.ld rfl (Cel.var 3 rfl) (o := 0) (off := 0) rfl (Cut.agg [.int .i64 1, .int .i64 0, .int .i64 0, .int .i64 9, .int .i64 0, .int .i64 3, .int .i64 0] Try.isAgg45 Try.sizeOf45 rfl rfl)) rfl ?_
 refine O.q (Qt.ld rfl (Cel.var 2 rfl) (o := 0) (off := 0) rfl (Cut.agg [.int .i64 6, .int .i64 0, .int .i64 0, .int .i64 9, .int .i64 8, .int .i64 1, .int .i64 0] Try.isAgg45 Try.sizeOf45 rfl rfl)) rfl ?_
 refine O.l (Lo.buildM (s := 7) Ev.cells [(⟨9, 0, 1, 5, 0, 3, 0⟩ : Ev), (⟨8, 0, 0, 5, 0, 1, 3⟩ : Ev), (⟨1, 0, 0, 9, 0, 3, 0⟩ : Ev), (⟨6, 0, 0, 9, 8, 1, 0⟩ : Ev)] [(0, .agg #[.int .i64 9, .int .i64 0, .int .i64 1, .int .i64 5, .int .i64 0, .int .i64 3, .int .i64 0]), (1, .agg #[.int .i64 8, .int .i64 0, .int .i64 0, .int .i64 5, .int .i64 0, .int .i64 1, .int .i64 3]), (2, .agg #[.int .i64 1, .int .i64 0, .int .i64 0, .int .i64 9, .int .i64 0, .int .i64 3, .int .i64 0]), (3, .agg #[.int .i64 6, .int .i64 0, .int .i64 0, .int .i64 9, .int .i64 8, .int .i64 1, .int .i64 0])] (by exact Try.runUnderlying26) (by exact Try.sizeOf45) (by exact Try.zeroValue45) rfl rfl rfl (by kernel_rfl) rfl rfl) rfl ?_
 rintro V12 _ rfl
 refine O.l (Lo.call [.agg #[.int .i64 2, .int .i64 4, .int .i64 1000, .int .u64 1, V5], V12] (by exact Try.call7) rfl (sd_Wrong_4 V5 o6 V12 ho7 ht8) [] [0, 1, 2, 3, 4, 5, 6] (by decide) rfl [row V12 45 7 (([(⟨9, 0, 1, 5, 0, 3, 0⟩ : Ev), (⟨8, 0, 0, 5, 0, 1, 3⟩ : Ev), (⟨1, 0, 0, 9, 0, 3, 0⟩ : Ev), (⟨6, 0, 0, 9, 8, 1, 0⟩ : Ev)]).map Ev.cells), var g10 [.int .i64 2, .int .i64 4, .int .i64 1000, .int .u64 1, V5] 25, row V5 66 14 (o6.map Svc.cells), var g4 [.int .i64 6, .int .i64 0, .int .i64 0, .int .i64 9, .int .i64 8, .int .i64 1, .int .i64 0] 45, var g3 [.int .i64 1, .int .i64 0, .int .i64 0, .int .i64 9, .int .i64 0, .int .i64 3, .int .i64 0] 45, var g2 [.int .i64 8, .int .i64 0, .int .i64 0, .int .i64 5, .int .i64 0, .int .i64 1, .int .i64 3] 45, var g1 [.int .i64 9, .int .i64 0, .int .i64 1, .int .i64 5, .int .i64 0, .int .i64 3, .int .i64 0] 45] rfl (RoOk.of 2 rfl row_rd [] (by decide) rfl (RoOk.of 0 rfl row_rd [] (by decide) rfl RoOk.nil))) rfl ?_
 rintro _ _ ⟨_, ⟨rfl, rfl⟩, rfl⟩
 refine O.p (Pu.move rfl) rfl ?_
 refine O.p (Pu.extract rfl rfl) rfl ?_
 refine O.p (Pu.extract rfl rfl) rfl ?_
 refine O.p (Pu.assign rfl) rfl ?_
 refine O.p (Pu.assign rfl) rfl ?_
 refine O.nil ?_
 refine J.seq ?_
 refine J.region ?_
 refine O.q (Qt.ld rfl (Cel.var 1 rfl) (o := 0) (off := 0) rfl (Cut.agg [.int .i64 2, .int .i64 4, .int .i64 1000, .int .u64 1, V5] Try.isAgg25 Try.sizeOf25 rfl rfl)) rfl ?_
 refine O.q (Qt.ld rfl (Cel.var 5 rfl) (o := 0) (off := 0) rfl (Cut.agg [.int .i64 8, .int .i64 0, .int .i64 0, .int .i64 5, .int .i64 0, .int .i64 1, .int .i64 3] Try.isAgg45 Try.sizeOf45 rfl rfl)) rfl ?_
 refine O.q (Qt.ld rfl (Cel.var 4 rfl) (o := 0) (off := 0) rfl (Cut.agg [.int .i64 1, .int .i64 0, .int .i64 0, .int .i64 9, .int .i64 0, .int .i64 3, .int .i64 0] Try.isAgg45 Try.sizeOf45 rfl rfl)) rfl ?_
 refine O.q (Qt.ld rfl (Cel.var 3 rfl) (o := 0) (off := 0) rfl (Cut.agg [.int .i64 6, .int .i64 0, .int .i64 0, .int .i64 9, .int .i64 8, .int .i64 1, .int .i64 0] Try.isAgg45 Try.sizeOf45 rfl rfl)) rfl ?_
 refine O.l (Lo.buildM (s := 7) Ev.cells [(⟨8, 0, 0, 5, 0, 1, 3⟩ : Ev), (⟨1, 0, 0, 9, 0, 3, 0⟩ : Ev), (⟨6, 0, 0, 9, 8, 1, 0⟩ : Ev)] [(0, .agg #[.int .i64 8, .int .i64 0, .int .i64 0, .int .i64 5, .int .i64 0, .int .i64 1, .int .i64 3]), (1, .agg #[.int .i64 1, .int .i64 0, .int .i64 0, .int .i64 9, .int .i64 0, .int .i64 3, .int .i64 0]), (2, .agg #[.int .i64 6, .int .i64 0, .int .i64 0, .int .i64 9, .int .i64 8, .int .i64 1, .int .i64 0])] (by exact Try.runUnderlying26) (by exact Try.sizeOf45) (by exact Try.zeroValue45) rfl rfl rfl (by kernel_rfl) rfl rfl) rfl ?_
 rintro V14 _ rfl
 refine O.l (Lo.call [.agg #[.int .i64 2, .int .i64 4, .int .i64 1000, .int .u64 1, V5], V14] (by exact Try.call7) rfl (sd_Wrong_3 V5 o6 V14 ho7 ht8) [] [0, 1, 2, 3, 4, 5, 6, 7] (by decide) rfl [row V14 45 7 (([(⟨8, 0, 0, 5, 0, 1, 3⟩ : Ev), (⟨1, 0, 0, 9, 0, 3, 0⟩ : Ev), (⟨6, 0, 0, 9, 8, 1, 0⟩ : Ev)]).map Ev.cells), row V12 45 7 (([(⟨9, 0, 1, 5, 0, 3, 0⟩ : Ev), (⟨8, 0, 0, 5, 0, 1, 3⟩ : Ev), (⟨1, 0, 0, 9, 0, 3, 0⟩ : Ev), (⟨6, 0, 0, 9, 8, 1, 0⟩ : Ev)]).map Ev.cells), var g10 [.int .i64 2, .int .i64 4, .int .i64 1000, .int .u64 1, V5] 25, row V5 66 14 (o6.map Svc.cells), var g4 [.int .i64 6, .int .i64 0, .int .i64 0, .int .i64 9, .int .i64 8, .int .i64 1, .int .i64 0] 45, var g3 [.int .i64 1, .int .i64 0, .int .i64 0, .int .i64 9, .int .i64 0, .int .i64 3, .int .i64 0] 45, var g2 [.int .i64 8, .int .i64 0, .int .i64 0, .int .i64 5, .int .i64 0, .int .i64 1, .int .i64 3] 45, var g1 [.int .i64 9, .int .i64 0, .int .i64 1, .int .i64 5, .int .i64 0, .int .i64 3, .int .i64 0] 45] rfl (RoOk.of 3 rfl row_rd [] (by decide) rfl (RoOk.of 0 rfl row_rd [] (by decide) rfl RoOk.nil))) rfl ?_
 rintro _ _ ⟨_, ⟨rfl, rfl⟩, rfl⟩
 refine O.p (Pu.move rfl) rfl ?_
 refine O.p (Pu.extract rfl rfl) rfl ?_
 refine O.p (Pu.extract rfl rfl) rfl ?_
 refine O.p (Pu.assign rfl) rfl ?_
 refine O.p (Pu.assign rfl) rfl ?_
 refine O.nil ?_
 refine J.seq ?_
 refine J.region ?_
 refine O.p (Pu.move rfl) rfl ?_
 refine O.p (Pu.not rfl) rfl ?_
 refine O.p (Pu.move rfl) rfl ?_
 refine O.gq (t := 36) rfl rfl rfl rfl (Pu.qt (Pu.move rfl)) rfl ?_
 refine O.gq (t := 36) rfl rfl rfl rfl (Pu.qt (Pu.eql rfl rfl)) rfl ?_
 refine O.p (Pu.pickT rfl rfl rfl) rfl ?_
 refine O.p (Pu.move rfl) rfl ?_
 refine O.gq (t := 40) rfl rfl rfl rfl (Pu.qt (Pu.move rfl)) rfl ?_
 refine O.p (Pu.pickT rfl rfl rfl) rfl ?_
 refine O.p (Pu.move rfl) rfl ?_
 refine O.gq (t := 43) rfl rfl rfl rfl (Qt.ld rfl (Cel.var 4 rfl) (o := 0) (off := 0) rfl (Cut.agg [.int .i64 6, .int .i64 0, .int .i64 0, .int .i64 9, .int .i64 8, .int .i64 1, .int .i64 0] Try.isAgg45 Try.sizeOf45 rfl rfl)) rfl ?_
 refine O.gl (t := 43) rfl rfl rfl rfl (Lo.buildM (s := 7) Ev.cells [(⟨6, 0, 0, 9, 8, 1, 0⟩ : Ev)] [(0, .agg #[.int .i64 6, .int .i64 0, .int .i64 0, .int .i64 9, .int .i64 8, .int .i64 1, .int .i64 0])] (by exact Try.runUnderlying26) (by exact Try.sizeOf45) (by exact Try.zeroValue45) rfl rfl rfl (by kernel_rfl) rfl rfl) rfl ?_
 rintro V16 _ rfl
 refine O.gl (t := 43) rfl rfl rfl rfl (Lo.call [.int .i64 0, V16] (by exact Try.call12) rfl (sd_Cuts 0 V16 ([(⟨6, 0, 0, 9, 8, 1, 0⟩ : Ev)]) (by decide)) [] [0, 1, 2, 3, 4, 5, 6, 7, 8] (by decide) rfl [row V16 45 7 (([(⟨6, 0, 0, 9, 8, 1, 0⟩ : Ev)]).map Ev.cells), row V14 45 7 (([(⟨8, 0, 0, 5, 0, 1, 3⟩ : Ev), (⟨1, 0, 0, 9, 0, 3, 0⟩ : Ev), (⟨6, 0, 0, 9, 8, 1, 0⟩ : Ev)]).map Ev.cells), row V12 45 7 (([(⟨9, 0, 1, 5, 0, 3, 0⟩ : Ev), (⟨8, 0, 0, 5, 0, 1, 3⟩ : Ev), (⟨1, 0, 0, 9, 0, 3, 0⟩ : Ev), (⟨6, 0, 0, 9, 8, 1, 0⟩ : Ev)]).map Ev.cells), var g10 [.int .i64 2, .int .i64 4, .int .i64 1000, .int .u64 1, V5] 25, row V5 66 14 (o6.map Svc.cells), var g4 [.int .i64 6, .int .i64 0, .int .i64 0, .int .i64 9, .int .i64 8, .int .i64 1, .int .i64 0] 45, var g3 [.int .i64 1, .int .i64 0, .int .i64 0, .int .i64 9, .int .i64 0, .int .i64 3, .int .i64 0] 45, var g2 [.int .i64 8, .int .i64 0, .int .i64 0, .int .i64 5, .int .i64 0, .int .i64 1, .int .i64 3] 45, var g1 [.int .i64 9, .int .i64 0, .int .i64 1, .int .i64 5, .int .i64 0, .int .i64 3, .int .i64 0] 45] rfl (RoOk.of 0 rfl row_rd [] (by decide) rfl RoOk.nil)) rfl ?_
 rintro _ _ ⟨_, ⟨rfl, rfl⟩, rfl⟩
 refine O.gq (t := 43) rfl rfl rfl rfl (Pu.qt (Pu.eql rfl rfl)) rfl ?_
 refine O.p (Pu.pickT rfl rfl rfl) rfl ?_
 refine O.p (Pu.move rfl) rfl ?_
 refine O.gq (t := 49) rfl rfl (by rfl) rfl (Qt.ld rfl (Cel.var 8 rfl) (o := 0) (off := 0) rfl (Cut.agg [.int .i64 9, .int .i64 0, .int .i64 1, .int .i64 5, .int .i64 0, .int .i64 3, .int .i64 0] Try.isAgg45 Try.sizeOf45 rfl rfl)) rfl ?_
 refine O.gl (t := 49) rfl rfl (by rfl) rfl (Lo.buildM (s := 7) Ev.cells [(⟨9, 0, 1, 5, 0, 3, 0⟩ : Ev)] [(0, .agg #[.int .i64 9, .int .i64 0, .int .i64 1, .int .i64 5, .int .i64 0, .int .i64 3, .int .i64 0])] (by exact Try.runUnderlying26) (by exact Try.sizeOf45) (by exact Try.zeroValue45) rfl rfl rfl (by kernel_rfl) rfl rfl) rfl ?_
 rintro V18 _ rfl
 refine O.gl (t := 49) rfl rfl (by rfl) rfl (Lo.call [.int .i64 1, .int .i64 8, V18] (by exact Try.call10) rfl (sd_Published 1 8 V18 ([(⟨9, 0, 1, 5, 0, 3, 0⟩ : Ev)]) (by decide)) [] [0, 1, 2, 3, 4, 5, 6, 7, 8, 9] (by decide) rfl [row V18 45 7 (([(⟨9, 0, 1, 5, 0, 3, 0⟩ : Ev)]).map Ev.cells), row V16 45 7 (([(⟨6, 0, 0, 9, 8, 1, 0⟩ : Ev)]).map Ev.cells), row V14 45 7 (([(⟨8, 0, 0, 5, 0, 1, 3⟩ : Ev), (⟨1, 0, 0, 9, 0, 3, 0⟩ : Ev), (⟨6, 0, 0, 9, 8, 1, 0⟩ : Ev)]).map Ev.cells), row V12 45 7 (([(⟨9, 0, 1, 5, 0, 3, 0⟩ : Ev), (⟨8, 0, 0, 5, 0, 1, 3⟩ : Ev), (⟨1, 0, 0, 9, 0, 3, 0⟩ : Ev), (⟨6, 0, 0, 9, 8, 1, 0⟩ : Ev)]).map Ev.cells), var g10 [.int .i64 2, .int .i64 4, .int .i64 1000, .int .u64 1, V5] 25, row V5 66 14 (o6.map Svc.cells), var g4 [.int .i64 6, .int .i64 0, .int .i64 0, .int .i64 9, .int .i64 8, .int .i64 1, .int .i64 0] 45, var g3 [.int .i64 1, .int .i64 0, .int .i64 0, .int .i64 9, .int .i64 0, .int .i64 3, .int .i64 0] 45, var g2 [.int .i64 8, .int .i64 0, .int .i64 0, .int .i64 5, .int .i64 0, .int .i64 1, .int .i64 3] 45, var g1 [.int .i64 9, .int .i64 0, .int .i64 1, .int .i64 5, .int .i64 0, .int .i64 3, .int .i64 0] 45] rfl (RoOk.of 0 rfl row_rd [] (by decide) rfl RoOk.nil)) rfl ?_
 rintro v19 _ ⟨_, rfl, rfl⟩
 refine O.gq (t := 49) rfl rfl (by rfl) rfl (Qt.lenM Try.runUnderlying38 rfl (Src.row 0 rfl)) rfl ?_
 refine O.gq (t := 49) rfl rfl (by rfl) rfl (Pu.qt (Pu.eql rfl rfl)) rfl ?_
 refine O.p (Pu.pickT rfl (by rfl) rfl) rfl ?_
 refine O.p (Pu.assign rfl) rfl ?_
 refine O.nil ?_
 exact J.ret (Fin.ret (rs := [.tmp 0]) rfl [_] ⟨rfl, trivial⟩ [] (by decide) [] rfl ⟨rfl, rfl⟩)

end Go.Proofs.Ytdnalilglacjbaa
