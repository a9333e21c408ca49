/-
  Walks, printed by a program of mine (lk.py): each function meets its contract.
-/
import Derived.KernelRfl
import Derived.Test.YtilcmkegbmppnaaDoorRX1
import Derived.Test.YtilcmkegbmppnaaDoorRX8
import Derived.Test.YtilcmkegbmppnaaDoorLedgerA
namespace Go.Proofs.YtilcmkegbmppnaaDoor
open Go Go.LK
set_option linter.unusedSimpArgs false

set_option maxRecDepth 100000 in
theorem rp_Of (s : Int) (lv : Value) (l : List Ev) (hl : l.length ≤ 80000) : Tri Tryd.prog 29 #[.int .i64 s, lv] [rd lv 7 (l.map Ev.cells)] [] (fun v L' => v = .tuple #[.agg #[.int .i64 (((Rp.of s l).1).d0), .int .i64 (((Rp.of s l).1).d1), .int .i64 (((Rp.of s l).1).d2), .int .i64 (((Rp.of s l).1).d3), .int .i64 (((Rp.of s l).1).d4), .int .i64 (((Rp.of s l).1).d5), .int .i64 (((Rp.of s l).1).d6), .int .i64 (((Rp.of s l).1).d7), .int .i64 (((Rp.of s l).1).d8), .int .i64 (((Rp.of s l).1).d9), .int .i64 (((Rp.of s l).1).d10), .int .i64 (((Rp.of s l).1).d11)], .int .i64 (Rp.of s l).2.1, .int .i64 (Rp.of s l).2.2] ∧ L' = []) := by
 refine Tri.enter (args := [.int .i64 s, lv]) (body := _) 39 Tryd.func29 rfl Tryd.ntmps29 rfl ?_
 intro w0
 refine J.seq ?_
 refine J.region ?_
 refine O.l (Lo.alloc [.int .i64 0, .int .i64 0, .int .i64 0, .int .i64 0, .int .i64 0, .int .i64 0, .int .i64 0, .int .i64 0, .int .i64 0, .int .i64 0, .int .i64 0, .int .i64 0] (by exact Tryd.zeroValue59) rfl) rfl ?_
 rintro _ _ ⟨g1, rfl, rfl⟩
 refine O.p (Pu.assign rfl) rfl ?_
 refine O.p (Pu.assign rfl) rfl ?_
 refine O.nil ?_
 refine J.seq ?_
 refine J.seq ?_
 refine J.region ?_
 refine O.p (Pu.move rfl) rfl ?_
 refine O.l (Lo.call [lv] (by exact Tryd.call62) rfl (ld_Read lv l (by omega)) [] [0] (by decide) rfl [var g1 [.int .i64 0, .int .i64 0, .int .i64 0, .int .i64 0, .int .i64 0, .int .i64 0, .int .i64 0, .int .i64 0, .int .i64 0, .int .i64 0, .int .i64 0, .int .i64 0] 59] rfl (RoOk.ro 0 rfl [] rfl RoOk.nil)) rfl ?_
 rintro _ _ ⟨_, ⟨V3, rfl, rfl⟩, rfl⟩
 refine O.p (Pu.move rfl) rfl ?_
 refine O.p (Pu.extract rfl rfl) rfl ?_
 refine O.p (Pu.extract rfl rfl) rfl ?_
 refine O.p (Pu.extract rfl rfl) rfl ?_
 refine O.p (Pu.assign rfl) rfl ?_
 refine O.p (Pu.assign rfl) rfl ?_
 refine O.p (Pu.assign rfl) rfl ?_
 refine O.nil ?_
 refine J.seq ?_
 refine J.region ?_
 refine O.p (Pu.move rfl) rfl ?_
 refine O.p (Pu.neq rfl rfl) rfl ?_
 refine O.nil ?_
 refine J.cond rfl (fun h5 => ?_) (fun h5 => ?_)
 ·
  have p6 := of_decide_eq_true h5
  refine J.seq ?_
  refine J.region ?_
  refine O.p (Pu.build [] [.int .i64 0, .int .i64 0, .int .i64 0, .int .i64 0, .int .i64 0, .int .i64 0, .int .i64 0, .int .i64 0, .int .i64 0, .int .i64 0, .int .i64 0, .int .i64 0] #[(0, 1), (1, 1), (2, 1), (3, 1), (4, 1), (5, 1), (6, 1), (7, 1), (8, 1), (9, 1), (10, 1), (11, 1)] Tryd.runUnderlying59 Tryd.zeroValue59 (places59 Tryd.underlying59) rfl (by kernel_rfl)) rfl ?_
  refine O.p (Pu.move rfl) rfl ?_
  refine O.p (Pu.move rfl) rfl ?_
  refine O.l0 (Lo.store 1 (vs := [.int .i64 0, .int .i64 0, .int .i64 0, .int .i64 0, .int .i64 0, .int .i64 0, .int .i64 0, .int .i64 0, .int .i64 0, .int .i64 0, .int .i64 0, .int .i64 0]) [.int .i64 0, .int .i64 0, .int .i64 0, .int .i64 0, .int .i64 0, .int .i64 0, .int .i64 0, .int .i64 0, .int .i64 0, .int .i64 0, .int .i64 0, .int .i64 0] rfl rfl rfl (by exact Tryd.sizeOf59) rfl rfl rfl rfl rfl) ?_
  rintro _ _ rfl
  refine O.p (Pu.assign rfl) rfl ?_
  refine O.p (Pu.assign rfl) rfl ?_
  refine O.nil ?_
  exact J.ret (Fin.ret (rs := [.cell 4 59, .tmp 5, .tmp 6]) rfl [_, _, _] ⟨⟨_, _, 0, 0, _, rfl, (Cel.var 1 rfl), rfl, (Cut.agg [.int .i64 0, .int .i64 0, .int .i64 0, .int .i64 0, .int .i64 0, .int .i64 0, .int .i64 0, .int .i64 0, .int .i64 0, .int .i64 0, .int .i64 0, .int .i64 0] Tryd.isAgg59 Tryd.sizeOf59 rfl rfl)⟩, rfl, rfl, trivial⟩ [] (by decide) [] rfl ⟨(by rw [Rp.of_no ‹_›]; rfl), rfl⟩)
 ·
  have p7 := of_decide_eq_false h5
  refine J.skip ?_
  refine J.seq ?_
  refine J.region ?_
  refine O.l (Lo.alloc [.int .i64 0, .int .i64 0, .int .i64 0, .int .i64 0, .int .i64 0, .int .i64 0, .int .i64 0, .int .i64 0, .int .i64 0, .int .i64 0, .int .i64 0, .int .i64 0] (by exact Tryd.zeroValue59) rfl) rfl ?_
  rintro _ _ ⟨g8, rfl, rfl⟩
  refine O.nil ?_
  refine J.seq ?_
  refine J.seq ?_
  refine J.region ?_
  refine O.p (Pu.move rfl) rfl ?_
  refine O.p (Pu.move rfl) rfl ?_
  refine O.l (Lo.call [.int .i64 s, lv] (by exact Tryd.call63) rfl (trace_of s lv l (by omega)) [] [0, 1, 2] (by decide) rfl [var g8 [.int .i64 0, .int .i64 0, .int .i64 0, .int .i64 0, .int .i64 0, .int .i64 0, .int .i64 0, .int .i64 0, .int .i64 0, .int .i64 0, .int .i64 0, .int .i64 0] 59, row V3 98 8 (((Ld.read l).1).map Ft.cells), var g1 [.int .i64 0, .int .i64 0, .int .i64 0, .int .i64 0, .int .i64 0, .int .i64 0, .int .i64 0, .int .i64 0, .int .i64 0, .int .i64 0, .int .i64 0, .int .i64 0] 59] rfl (RoOk.ro 0 rfl [] rfl RoOk.nil)) rfl ?_
  rintro v9 _ ⟨_, rfl, rfl⟩
  refine O.q (Qt.lenM Tryd.runUnderlying57 rfl (Src.row 0 rfl)) rfl ?_
  refine O.p (Pu.move rfl) rfl ?_
  refine O.nil ?_
  refine J.block ?_
  refine J.loop (X := Nat × Rep) (fun ξ => ξ.1 ≤ (Mono.of s l).length ∧ ξ.2 = Rp.cntF (Mono.of s l) ξ.1) (fun ξ => [(4, .pointer (some ⟨g1, 0, none⟩)), (5, .int .i64 0), (6, .int .i64 0), (10, .pointer (some ⟨g8, 0, none⟩)), (26, v9), (27, .int .i64 ((Mono.of s l).length : Int)), (28, .int .i64 (ξ.1 : Int))]) (fun ξ => [row v9 83 7 ((Mono.of s l).map Ev.cells), var g8 [.int .i64 ξ.2.d0, .int .i64 ξ.2.d1, .int .i64 ξ.2.d2, .int .i64 ξ.2.d3, .int .i64 ξ.2.d4, .int .i64 ξ.2.d5, .int .i64 ξ.2.d6, .int .i64 ξ.2.d7, .int .i64 ξ.2.d8, .int .i64 ξ.2.d9, .int .i64 ξ.2.d10, .int .i64 ξ.2.d11] 59, var g1 [.int .i64 0, .int .i64 0, .int .i64 0, .int .i64 0, .int .i64 0, .int .i64 0, .int .i64 0, .int .i64 0, .int .i64 0, .int .i64 0, .int .i64 0, .int .i64 0] 59]) (fun ξ => (Mono.of s l).length - ξ.1) ⟨0, Rp.zero⟩ (show 0 ≤ (Mono.of s l).length ∧ Rp.zero = Rp.cntF (Mono.of s l) 0 from ⟨by omega, rfl⟩) ⟨rfl, rfl, rfl, rfl, rfl, rfl, (congrArg (fun z => some (Value.int .i64 z)) (by first | rfl | omega : (0 : Int) = (0 : Int))), trivial⟩ [0, 1, 3] (by decide) rfl ?_
  rintro ⟨k, r⟩ hq10
  obtain ⟨hk, hr⟩ : k ≤ (Mono.of s l).length ∧ r = Rp.cntF (Mono.of s l) k := hq10
  show J _ _ [(4, .pointer (some ⟨g1, 0, none⟩)), (5, .int .i64 0), (6, .int .i64 0), (10, .pointer (some ⟨g8, 0, none⟩)), (26, v9), (27, .int .i64 ((Mono.of s l).length : Int)), (28, .int .i64 (k : Int))] [row v9 83 7 ((Mono.of s l).map Ev.cells), var g8 [.int .i64 r.d0, .int .i64 r.d1, .int .i64 r.d2, .int .i64 r.d3, .int .i64 r.d4, .int .i64 r.d5, .int .i64 r.d6, .int .i64 r.d7, .int .i64 r.d8, .int .i64 r.d9, .int .i64 r.d10, .int .i64 r.d11] 59, var g1 [.int .i64 0, .int .i64 0, .int .i64 0, .int .i64 0, .int .i64 0, .int .i64 0, .int .i64 0, .int .i64 0, .int .i64 0, .int .i64 0, .int .i64 0, .int .i64 0] 59]
  refine J.seq ?_
  refine J.region ?_
  refine O.p (Pu.lss rfl rfl) rfl ?_
  refine O.nil ?_
  refine J.seq ?_
  refine J.cond rfl (fun h11 => ?_) (fun h11 => ?_)
  ·
   have p12 := of_decide_eq_true h11
   refine J.skip ?_
   refine J.seq ?_
   refine J.block ?_
   refine J.seq ?_
   refine J.region ?_
   obtain ⟨e13, he13⟩ : ∃ x_, (Mono.of s l)[k]? = some x_ := ⟨_, List.getElem?_eq_getElem (by first | omega | (have h_ := Mono.of_len s l; omega))⟩
   refine O.q (Qt.idxM Tryd.runUnderlying57 Tryd.sizeOf83 rfl (Src.row 0 rfl) rfl (by first | omega | (have h_ := Mono.of_len s l; omega)) (by first | omega | (have h_ := Mono.of_len s l; omega))) rfl ?_
   refine O.q (Qt.ld rfl (Cel.eltM (Src.row 0 rfl) he13) (o := (voff v9 + k * 7)) (off := 0) (by omega) (Cut.agg [.int .i64 e13.kind, .int .i64 e13.tick, .int .i64 e13.s, .int .i64 e13.id, .int .i64 e13.code, .int .i64 e13.a, .int .i64 e13.b] Tryd.isAgg83 Tryd.sizeOf83 rfl rfl)) rfl ?_
   refine O.l (Lo.alloc [.int .i64 0, .int .i64 0, .int .i64 0, .int .i64 0, .int .i64 0, .int .i64 0, .int .i64 0] (by exact Tryd.zeroValue83) rfl) rfl ?_
   rintro _ _ ⟨g14, rfl, rfl⟩
   refine O.l0 (Lo.store 0 (vs := [.int .i64 e13.kind, .int .i64 e13.tick, .int .i64 e13.s, .int .i64 e13.id, .int .i64 e13.code, .int .i64 e13.a, .int .i64 e13.b]) [.int .i64 e13.kind, .int .i64 e13.tick, .int .i64 e13.s, .int .i64 e13.id, .int .i64 e13.code, .int .i64 e13.a, .int .i64 e13.b] rfl rfl rfl (by exact Tryd.sizeOf83) rfl rfl rfl rfl rfl) ?_
   rintro _ _ rfl
   refine O.nil ?_
   refine J.region ?_
   refine O.q (Qt.ld rfl (Cel.var 0 rfl) (o := 0) (off := 0) rfl (Cut.agg [.int .i64 e13.kind, .int .i64 e13.tick, .int .i64 e13.s, .int .i64 e13.id, .int .i64 e13.code, .int .i64 e13.a, .int .i64 e13.b] Tryd.isAgg83 Tryd.sizeOf83 rfl rfl)) rfl ?_
   refine O.l (Lo.call [.pointer (some ⟨g8, 0, none⟩), .agg #[.int .i64 e13.kind, .int .i64 e13.tick, .int .i64 e13.s, .int .i64 e13.id, .int .i64 e13.code, .int .i64 e13.a, .int .i64 e13.b]] (by exact Tryd.call64) rfl (rp_count g8 r e13) [2] [0, 1, 3] (by decide) rfl [var g14 [.int .i64 e13.kind, .int .i64 e13.tick, .int .i64 e13.s, .int .i64 e13.id, .int .i64 e13.code, .int .i64 e13.a, .int .i64 e13.b] 83, row v9 83 7 ((Mono.of s l).map Ev.cells), var g1 [.int .i64 0, .int .i64 0, .int .i64 0, .int .i64 0, .int .i64 0, .int .i64 0, .int .i64 0, .int .i64 0, .int .i64 0, .int .i64 0, .int .i64 0, .int .i64 0] 59] rfl RoOk.nil) rfl ?_
   rintro _ _ ⟨_, ⟨rfl, rfl⟩, rfl⟩
   refine O.nil ?_
   refine J.blk ?_
   refine J.region ?_
   refine O.p (Pu.add' rfl rfl (by first | omega | (have h_ := Mono.of_len s l; omega))) rfl ?_
   refine O.p (Pu.move rfl) rfl ?_
   refine O.nil ?_
   exact J.lp ⟨k + 1, Rp.cnt r e13⟩ (show (k + 1) ≤ (Mono.of s l).length ∧ (Rp.cnt r e13) = Rp.cntF (Mono.of s l) (k + 1) from ⟨by omega, (by rw [Rp.cntF_next he13, ← hr])⟩) (show (Mono.of s l).length - (k + 1) < (Mono.of s l).length - k from (by first | omega | (have h_ := Mono.of_len s l; omega))) ⟨rfl, rfl, rfl, rfl, rfl, rfl, (congrArg (fun z => some (Value.int .i64 z)) (by first | rfl | omega : ((k : Int) + 1 : Int) = ((k + 1) : Int))), trivial⟩ [2, 0, 3] (by decide) rfl
  ·
   have p16 := of_decide_eq_false h11
   refine J.exit _ rfl ?_
   refine J.seq ?_
   refine J.region ?_
   refine O.q (Qt.ld rfl (Cel.var 1 rfl) (o := 0) (off := 0) rfl (Cut.agg [.int .i64 r.d0, .int .i64 r.d1, .int .i64 r.d2, .int .i64 r.d3, .int .i64 r.d4, .int .i64 r.d5, .int .i64 r.d6, .int .i64 r.d7, .int .i64 r.d8, .int .i64 r.d9, .int .i64 r.d10, .int .i64 r.d11] Tryd.isAgg59 Tryd.sizeOf59 rfl rfl)) rfl ?_
   refine O.l (Lo.call [.agg #[.int .i64 r.d0, .int .i64 r.d1, .int .i64 r.d2, .int .i64 r.d3, .int .i64 r.d4, .int .i64 r.d5, .int .i64 r.d6, .int .i64 r.d7, .int .i64 r.d8, .int .i64 r.d9, .int .i64 r.d10, .int .i64 r.d11]] (by exact Tryd.call65) rfl (rp_share r) [] [0, 1, 2] (by decide) rfl [row v9 83 7 ((Mono.of s l).map Ev.cells), var g8 [.int .i64 r.d0, .int .i64 r.d1, .int .i64 r.d2, .int .i64 r.d3, .int .i64 r.d4, .int .i64 r.d5, .int .i64 r.d6, .int .i64 r.d7, .int .i64 r.d8, .int .i64 r.d9, .int .i64 r.d10, .int .i64 r.d11] 59, var g1 [.int .i64 0, .int .i64 0, .int .i64 0, .int .i64 0, .int .i64 0, .int .i64 0, .int .i64 0, .int .i64 0, .int .i64 0, .int .i64 0, .int .i64 0, .int .i64 0] 59] rfl RoOk.nil) rfl ?_
   rintro _ _ ⟨_, ⟨rfl, rfl⟩, rfl⟩
   refine O.p (Pu.fieldAddr (off' := 11) Tryd.runUnderlying59 rfl Tryd.sizeOf3 rfl rfl rfl) rfl ?_
   refine O.l0 (Lo.store 1 (vs := [.int .i64 (Rp.share r.d4 r.d0)]) [.int .i64 r.d0, .int .i64 r.d1, .int .i64 r.d2, .int .i64 r.d3, .int .i64 r.d4, .int .i64 r.d5, .int .i64 r.d6, .int .i64 r.d7, .int .i64 r.d8, .int .i64 r.d9, .int .i64 r.d10, .int .i64 (Rp.share r.d4 r.d0)] rfl rfl rfl (by exact Tryd.sizeOf3) rfl rfl rfl rfl rfl) ?_
   rintro _ _ rfl
   refine O.nil ?_
   refine J.seq ?_
   refine J.region ?_
   refine O.q (Qt.ld rfl (Cel.var 1 rfl) (o := 0) (off := 0) rfl (Cut.agg [.int .i64 r.d0, .int .i64 r.d1, .int .i64 r.d2, .int .i64 r.d3, .int .i64 r.d4, .int .i64 r.d5, .int .i64 r.d6, .int .i64 r.d7, .int .i64 r.d8, .int .i64 r.d9, .int .i64 r.d10, .int .i64 (Rp.share r.d4 r.d0)] Tryd.isAgg59 Tryd.sizeOf59 rfl rfl)) rfl ?_
   refine O.l0 (Lo.store 2 (vs := [.int .i64 r.d0, .int .i64 r.d1, .int .i64 r.d2, .int .i64 r.d3, .int .i64 r.d4, .int .i64 r.d5, .int .i64 r.d6, .int .i64 r.d7, .int .i64 r.d8, .int .i64 r.d9, .int .i64 r.d10, .int .i64 (Rp.share r.d4 r.d0)]) [.int .i64 r.d0, .int .i64 r.d1, .int .i64 r.d2, .int .i64 r.d3, .int .i64 r.d4, .int .i64 r.d5, .int .i64 r.d6, .int .i64 r.d7, .int .i64 r.d8, .int .i64 r.d9, .int .i64 r.d10, .int .i64 (Rp.share r.d4 r.d0)] rfl rfl rfl (by exact Tryd.sizeOf59) rfl rfl rfl rfl rfl) ?_
   rintro _ _ rfl
   refine O.p (Pu.assign rfl) rfl ?_
   refine O.p (Pu.assign rfl) rfl ?_
   refine O.nil ?_
   exact J.ret (Fin.ret (rs := [.cell 4 59, .tmp 5, .tmp 6]) rfl [_, _, _] ⟨⟨_, _, 0, 0, _, rfl, (Cel.var 2 rfl), rfl, (Cut.agg [.int .i64 r.d0, .int .i64 r.d1, .int .i64 r.d2, .int .i64 r.d3, .int .i64 r.d4, .int .i64 r.d5, .int .i64 r.d6, .int .i64 r.d7, .int .i64 r.d8, .int .i64 r.d9, .int .i64 r.d10, .int .i64 (Rp.share r.d4 r.d0)] Tryd.isAgg59 Tryd.sizeOf59 rfl rfl)⟩, rfl, rfl, trivial⟩ [] (by decide) [] rfl ⟨(by rw [Rp.of_yes (Decidable.not_not.1 ‹_›), ← Rp.cntF_all (k := k) (by omega), ← hr]; rfl), rfl⟩)

set_option maxRecDepth 100000 in
set_option maxHeartbeats 2000000 in
theorem r45_counted (s : Int) (lv : Value) (l : List Ev) (hl : l.length ≤ 80000) : Tri Tryd.prog 67 #[.int .i64 s, lv] [rd lv 7 (l.map Ev.cells)] [] (fun v L' => v = .agg #[.int .i64 ((Rp.counted s l).d0), .int .i64 ((Rp.counted s l).d1), .int .i64 ((Rp.counted s l).d2), .int .i64 ((Rp.counted s l).d3), .int .i64 ((Rp.counted s l).d4), .int .i64 ((Rp.counted s l).d5), .int .i64 ((Rp.counted s l).d6), .int .i64 ((Rp.counted s l).d7), .int .i64 ((Rp.counted s l).d8), .int .i64 ((Rp.counted s l).d9), .int .i64 ((Rp.counted s l).d10), .int .i64 ((Rp.counted s l).d11)] ∧ L' = []) := by
 refine Tri.enter (args := [.int .i64 s, lv]) (body := _) 101 Tryd.func67 rfl Tryd.ntmps67 rfl ?_
 intro w0
 refine J.seq ?_
 refine J.region ?_
 refine O.l (Lo.alloc [.int .i64 0, .int .i64 0, .int .i64 0, .int .i64 0, .int .i64 0, .int .i64 0, .int .i64 0, .int .i64 0, .int .i64 0, .int .i64 0, .int .i64 0, .int .i64 0] (by exact Tryd.zeroValue59) rfl) rfl ?_
 rintro _ _ ⟨g1, rfl, rfl⟩
 refine O.nil ?_
 refine J.seq ?_
 refine J.region ?_
 refine O.p (Pu.build [] [.int .i64 0, .int .i64 0, .int .i64 0, .int .i64 0, .int .i64 0, .int .i64 0, .int .i64 0, .int .i64 0, .int .i64 0, .int .i64 0, .int .i64 0, .int .i64 0] #[(0, 1), (1, 1), (2, 1), (3, 1), (4, 1), (5, 1), (6, 1), (7, 1), (8, 1), (9, 1), (10, 1), (11, 1)] Tryd.runUnderlying59 Tryd.zeroValue59 (places59 Tryd.underlying59) rfl (by kernel_rfl)) rfl ?_
 refine O.l (Lo.alloc [.int .i64 0, .int .i64 0, .int .i64 0, .int .i64 0, .int .i64 0, .int .i64 0, .int .i64 0, .int .i64 0, .int .i64 0, .int .i64 0, .int .i64 0, .int .i64 0] (by exact Tryd.zeroValue59) rfl) rfl ?_
 rintro _ _ ⟨g2, rfl, rfl⟩
 refine O.l0 (Lo.store 0 (vs := [.int .i64 0, .int .i64 0, .int .i64 0, .int .i64 0, .int .i64 0, .int .i64 0, .int .i64 0, .int .i64 0, .int .i64 0, .int .i64 0, .int .i64 0, .int .i64 0]) [.int .i64 0, .int .i64 0, .int .i64 0, .int .i64 0, .int .i64 0, .int .i64 0, .int .i64 0, .int .i64 0, .int .i64 0, .int .i64 0, .int .i64 0, .int .i64 0] rfl rfl rfl (by exact Tryd.sizeOf59) rfl rfl rfl rfl rfl) ?_
 rintro _ _ rfl
 refine O.nil ?_
 refine J.seq ?_
 refine J.seq ?_
 refine J.region ?_
 refine O.p (Pu.assign rfl) rfl ?_
 refine O.nil ?_
 refine J.block ?_
 refine J.loop (X := Nat × Rep) (fun ξ => ξ.1 ≤ l.length ∧ ξ.2 = Rp.cntK s l ξ.1) (fun ξ => [(0, .int .i64 s), (1, lv), (4, .pointer (some ⟨g1, 0, none⟩)), (5, .pointer (some ⟨g2, 0, none⟩)), (6, .int .i64 (ξ.1 : Int))]) (fun ξ => [var g2 [.int .i64 ξ.2.d0, .int .i64 ξ.2.d1, .int .i64 ξ.2.d2, .int .i64 ξ.2.d3, .int .i64 ξ.2.d4, .int .i64 ξ.2.d5, .int .i64 ξ.2.d6, .int .i64 ξ.2.d7, .int .i64 ξ.2.d8, .int .i64 ξ.2.d9, .int .i64 ξ.2.d10, .int .i64 ξ.2.d11] 59, var g1 [.int .i64 0, .int .i64 0, .int .i64 0, .int .i64 0, .int .i64 0, .int .i64 0, .int .i64 0, .int .i64 0, .int .i64 0, .int .i64 0, .int .i64 0, .int .i64 0] 59]) (fun ξ => l.length - ξ.1) ⟨0, Rp.zero⟩ (show 0 ≤ l.length ∧ Rp.zero = Rp.cntK s l 0 from ⟨by omega, rfl⟩) ⟨rfl, rfl, rfl, rfl, (congrArg (fun z => some (Value.int .i64 z)) (by first | rfl | omega : (0 : Int) = (0 : Int))), trivial⟩ [0, 1] (by decide) rfl ?_
 rintro ⟨k, r⟩ hq3
 obtain ⟨hk, hr⟩ : k ≤ l.length ∧ r = Rp.cntK s l k := hq3
 show J _ _ [(0, .int .i64 s), (1, lv), (4, .pointer (some ⟨g1, 0, none⟩)), (5, .pointer (some ⟨g2, 0, none⟩)), (6, .int .i64 (k : Int))] [var g2 [.int .i64 r.d0, .int .i64 r.d1, .int .i64 r.d2, .int .i64 r.d3, .int .i64 r.d4, .int .i64 r.d5, .int .i64 r.d6, .int .i64 r.d7, .int .i64 r.d8, .int .i64 r.d9, .int .i64 r.d10, .int .i64 r.d11] 59, var g1 [.int .i64 0, .int .i64 0, .int .i64 0, .int .i64 0, .int .i64 0, .int .i64 0, .int .i64 0, .int .i64 0, .int .i64 0, .int .i64 0, .int .i64 0, .int .i64 0] 59]
 refine J.seq ?_
 refine J.seq ?_
 refine J.region ?_
 refine O.p (Pu.move rfl) rfl ?_
 refine O.p (Pu.move rfl) rfl ?_
 refine O.q (Qt.lenM Tryd.runUnderlying57 rfl (Src.ro 0 rfl)) rfl ?_
 refine O.p (Pu.lss rfl rfl) rfl ?_
 refine O.nil ?_
 refine J.cond rfl (fun h4 => ?_) (fun h4 => ?_)
 ·
  have p5 := of_decide_eq_true h4
  refine J.skip ?_
  refine J.seq ?_
  refine J.block ?_
  refine J.seq ?_
  refine J.region ?_
  refine O.p (Pu.move rfl) rfl ?_
  refine O.p (Pu.move rfl) rfl ?_
  obtain ⟨e6, he6⟩ : ∃ x_, l[k]? = some x_ := ⟨_, List.getElem?_eq_getElem (by omega)⟩
  refine O.q (Qt.idxM Tryd.runUnderlying57 Tryd.sizeOf83 rfl (Src.ro 0 rfl) rfl (by omega) (by omega)) rfl ?_
  refine O.q (Qt.ld rfl (Cel.eltM (Src.ro 0 rfl) he6) (o := (voff lv + k * 7)) (off := 0) (by omega) (Cut.agg [.int .i64 e6.kind, .int .i64 e6.tick, .int .i64 e6.s, .int .i64 e6.id, .int .i64 e6.code, .int .i64 e6.a, .int .i64 e6.b] Tryd.isAgg83 Tryd.sizeOf83 rfl rfl)) rfl ?_
  refine O.l (Lo.alloc [.int .i64 0, .int .i64 0, .int .i64 0, .int .i64 0, .int .i64 0, .int .i64 0, .int .i64 0] (by exact Tryd.zeroValue83) rfl) rfl ?_
  rintro _ _ ⟨g7, rfl, rfl⟩
  refine O.l0 (Lo.store 0 (vs := [.int .i64 e6.kind, .int .i64 e6.tick, .int .i64 e6.s, .int .i64 e6.id, .int .i64 e6.code, .int .i64 e6.a, .int .i64 e6.b]) [.int .i64 e6.kind, .int .i64 e6.tick, .int .i64 e6.s, .int .i64 e6.id, .int .i64 e6.code, .int .i64 e6.a, .int .i64 e6.b] rfl rfl rfl (by exact Tryd.sizeOf83) rfl rfl rfl rfl rfl) ?_
  rintro _ _ rfl
  refine O.nil ?_
  refine J.seq ?_
  refine J.seq ?_
  refine J.region ?_
  refine O.p (Pu.fieldAddr (off' := 2) Tryd.runUnderlying83 rfl Tryd.sizeOf3 rfl rfl rfl) rfl ?_
  refine O.q (Qt.ld rfl (Cel.var 0 rfl) (o := 0) (off := 2) rfl (Cut.one Tryd.isAgg3 rfl)) rfl ?_
  refine O.p (Pu.move rfl) rfl ?_
  refine O.p (Pu.neq rfl rfl) rfl ?_
  refine O.nil ?_
  refine J.cond rfl (fun h8 => ?_) (fun h8 => ?_)
  ·
   have p9 := of_decide_eq_true h8
   refine J.exit _ rfl ?_
   refine J.region ?_
   refine O.p (Pu.move rfl) rfl ?_
   refine O.p (Pu.add' rfl rfl (by first | omega | (simp only [List.length_append, List.length_cons, List.length_nil, List.length_set]; omega))) rfl ?_
   refine O.p (Pu.assign rfl) rfl ?_
   refine O.nil ?_
   exact J.lp ⟨k + 1, (⟨r.d0, r.d1, r.d2, r.d3, r.d4, r.d5, r.d6, r.d7, r.d8, r.d9, r.d10, r.d11⟩ : Rep)⟩ (show (k + 1) ≤ l.length ∧ (⟨r.d0, r.d1, r.d2, r.d3, r.d4, r.d5, r.d6, r.d7, r.d8, r.d9, r.d10, r.d11⟩ : Rep) = Rp.cntK s l (k + 1) from ⟨by omega, (by first | (exfalso; omega) | (rw [Rp.cntK_no he6 ‹_›, ← hr]; done) | (rw [Rp.cntK_no he6 ‹_›, ← hr]; rfl) | (rw [Rp.cntK_yes he6 (Decidable.not_not.1 ‹_›), ← hr]; simp [Rp.cnt, Rp.inc, *]; done))⟩) (show l.length - (k + 1) < l.length - k from (by omega)) ⟨rfl, rfl, rfl, rfl, (congrArg (fun z => some (Value.int .i64 z)) (by first | rfl | omega : ((k : Int) + 1 : Int) = ((k + 1) : Int))), trivial⟩ [1, 2] (by decide) rfl
  ·
   have p10 := of_decide_eq_false h8
   refine J.skip ?_
   refine J.seq ?_
   refine J.region ?_
   refine O.p (Pu.fieldAddr (off' := 0) Tryd.runUnderlying83 rfl Tryd.sizeOf3 rfl rfl rfl) rfl ?_
   refine O.q (Qt.ld rfl (Cel.var 0 rfl) (o := 0) (off := 0) rfl (Cut.one Tryd.isAgg3 rfl)) rfl ?_
   refine O.nil ?_
   refine J.block ?_
   refine J.seq ?_
   refine J.region ?_
   refine O.p (Pu.eql rfl rfl) rfl ?_
   refine O.p (Pu.assign rfl) rfl ?_
   refine O.nil ?_
   refine J.cond rfl (fun h11 => ?_) (fun h11 => ?_)
   ·
    have p12 := of_decide_eq_true h11
    refine J.seq ?_
    refine J.region ?_
    refine O.p (Pu.fieldAddr (off' := 0) Tryd.runUnderlying59 rfl Tryd.sizeOf3 rfl rfl rfl) rfl ?_
    refine O.q (Qt.ld rfl (Cel.var 1 rfl) (o := 0) (off := 0) rfl (Cut.one Tryd.isAgg3 rfl)) rfl ?_
    refine O.p (Pu.add rfl rfl) rfl ?_
    refine O.p (Pu.fieldAddr (off' := 0) Tryd.runUnderlying59 rfl Tryd.sizeOf3 rfl rfl rfl) rfl ?_
    refine O.l0 (Lo.store 1 (vs := [.int .i64 (IntKind.i64.wrap (r.d0 + 1))]) [.int .i64 (IntKind.i64.wrap (r.d0 + 1)), .int .i64 r.d1, .int .i64 r.d2, .int .i64 r.d3, .int .i64 r.d4, .int .i64 r.d5, .int .i64 r.d6, .int .i64 r.d7, .int .i64 r.d8, .int .i64 r.d9, .int .i64 r.d10, .int .i64 r.d11] rfl rfl rfl (by exact Tryd.sizeOf3) rfl rfl rfl rfl rfl) ?_
    rintro _ _ rfl
    refine O.nil ?_
    refine J.seq ?_
    refine J.seq ?_
    refine J.region ?_
    refine O.p (Pu.fieldAddr (off' := 4) Tryd.runUnderlying83 rfl Tryd.sizeOf3 rfl rfl rfl) rfl ?_
    refine O.q (Qt.ld rfl (Cel.var 0 rfl) (o := 0) (off := 4) rfl (Cut.one Tryd.isAgg3 rfl)) rfl ?_
    refine O.p (Pu.eql rfl rfl) rfl ?_
    refine O.nil ?_
    refine J.cond rfl (fun h13 => ?_) (fun h13 => ?_)
    ·
     have p14 := of_decide_eq_true h13
     refine J.region ?_
     refine O.p (Pu.fieldAddr (off' := 1) Tryd.runUnderlying59 rfl Tryd.sizeOf3 rfl rfl rfl) rfl ?_
     refine O.q (Qt.ld rfl (Cel.var 1 rfl) (o := 0) (off := 1) rfl (Cut.one Tryd.isAgg3 rfl)) rfl ?_
     refine O.p (Pu.add rfl rfl) rfl ?_
     refine O.p (Pu.fieldAddr (off' := 1) Tryd.runUnderlying59 rfl Tryd.sizeOf3 rfl rfl rfl) rfl ?_
     refine O.l0 (Lo.store 1 (vs := [.int .i64 (IntKind.i64.wrap (r.d1 + 1))]) [.int .i64 (IntKind.i64.wrap (r.d0 + 1)), .int .i64 (IntKind.i64.wrap (r.d1 + 1)), .int .i64 r.d2, .int .i64 r.d3, .int .i64 r.d4, .int .i64 r.d5, .int .i64 r.d6, .int .i64 r.d7, .int .i64 r.d8, .int .i64 r.d9, .int .i64 r.d10, .int .i64 r.d11] rfl rfl rfl (by exact Tryd.sizeOf3) rfl rfl rfl rfl rfl) ?_
     rintro _ _ rfl
     refine O.nil ?_
     refine J.seq ?_
     refine J.region ?_
     refine O.p (Pu.fieldAddr (off' := 4) Tryd.runUnderlying83 rfl Tryd.sizeOf3 rfl rfl rfl) rfl ?_
     refine O.q (Qt.ld rfl (Cel.var 0 rfl) (o := 0) (off := 4) rfl (Cut.one Tryd.isAgg3 rfl)) rfl ?_
     refine O.p (Pu.eql rfl rfl) rfl ?_
     refine O.nil ?_
     refine J.cond rfl (fun h15 => ?_) (fun h15 => ?_)
     ·
      have p16 := of_decide_eq_true h15
      refine J.region ?_
      refine O.p (Pu.fieldAddr (off' := 2) Tryd.runUnderlying59 rfl Tryd.sizeOf3 rfl rfl rfl) rfl ?_
      refine O.q (Qt.ld rfl (Cel.var 1 rfl) (o := 0) (off := 2) rfl (Cut.one Tryd.isAgg3 rfl)) rfl ?_
      refine O.p (Pu.add rfl rfl) rfl ?_
      refine O.p (Pu.fieldAddr (off' := 2) Tryd.runUnderlying59 rfl Tryd.sizeOf3 rfl rfl rfl) rfl ?_
      refine O.l0 (Lo.store 1 (vs := [.int .i64 (IntKind.i64.wrap (r.d2 + 1))]) [.int .i64 (IntKind.i64.wrap (r.d0 + 1)), .int .i64 (IntKind.i64.wrap (r.d1 + 1)), .int .i64 (IntKind.i64.wrap (r.d2 + 1)), .int .i64 r.d3, .int .i64 r.d4, .int .i64 r.d5, .int .i64 r.d6, .int .i64 r.d7, .int .i64 r.d8, .int .i64 r.d9, .int .i64 r.d10, .int .i64 r.d11] rfl rfl rfl (by exact Tryd.sizeOf3) rfl rfl rfl rfl rfl) ?_
      rintro _ _ rfl
      refine O.nil ?_
      refine J.blk ?_
      refine J.blk ?_
      refine J.region ?_
      refine O.p (Pu.move rfl) rfl ?_
      refine O.p (Pu.add' rfl rfl (by first | omega | (simp only [List.length_append, List.length_cons, List.length_nil, List.length_set]; omega))) rfl ?_
      refine O.p (Pu.assign rfl) rfl ?_
      refine O.nil ?_
      exact J.lp ⟨k + 1, (⟨IntKind.i64.wrap (r.d0 + 1), IntKind.i64.wrap (r.d1 + 1), IntKind.i64.wrap (r.d2 + 1), r.d3, r.d4, r.d5, r.d6, r.d7, r.d8, r.d9, r.d10, r.d11⟩ : Rep)⟩ (show (k + 1) ≤ l.length ∧ (⟨IntKind.i64.wrap (r.d0 + 1), IntKind.i64.wrap (r.d1 + 1), IntKind.i64.wrap (r.d2 + 1), r.d3, r.d4, r.d5, r.d6, r.d7, r.d8, r.d9, r.d10, r.d11⟩ : Rep) = Rp.cntK s l (k + 1) from ⟨by omega, (by first | (exfalso; omega) | (rw [Rp.cntK_no he6 ‹_›, ← hr]; done) | (rw [Rp.cntK_no he6 ‹_›, ← hr]; rfl) | (rw [Rp.cntK_yes he6 (Decidable.not_not.1 ‹_›), ← hr]; simp [Rp.cnt, Rp.inc, *]; done))⟩) (show l.length - (k + 1) < l.length - k from (by omega)) ⟨rfl, rfl, rfl, rfl, (congrArg (fun z => some (Value.int .i64 z)) (by first | rfl | omega : ((k : Int) + 1 : Int) = ((k + 1) : Int))), trivial⟩ [1, 2] (by decide) rfl
     ·
      have p17 := of_decide_eq_false h15
      refine J.skip ?_
      refine J.blk ?_
      refine J.blk ?_
      refine J.region ?_
      refine O.p (Pu.move rfl) rfl ?_
      refine O.p (Pu.add' rfl rfl (by first | omega | (simp only [List.length_append, List.length_cons, List.length_nil, List.length_set]; omega))) rfl ?_
      refine O.p (Pu.assign rfl) rfl ?_
      refine O.nil ?_
      exact J.lp ⟨k + 1, (⟨IntKind.i64.wrap (r.d0 + 1), IntKind.i64.wrap (r.d1 + 1), r.d2, r.d3, r.d4, r.d5, r.d6, r.d7, r.d8, r.d9, r.d10, r.d11⟩ : Rep)⟩ (show (k + 1) ≤ l.length ∧ (⟨IntKind.i64.wrap (r.d0 + 1), IntKind.i64.wrap (r.d1 + 1), r.d2, r.d3, r.d4, r.d5, r.d6, r.d7, r.d8, r.d9, r.d10, r.d11⟩ : Rep) = Rp.cntK s l (k + 1) from ⟨by omega, (by first | (exfalso; omega) | (rw [Rp.cntK_no he6 ‹_›, ← hr]; done) | (rw [Rp.cntK_no he6 ‹_›, ← hr]; rfl) | (rw [Rp.cntK_yes he6 (Decidable.not_not.1 ‹_›), ← hr]; simp [Rp.cnt, Rp.inc, *]; done))⟩) (show l.length - (k + 1) < l.length - k from (by omega)) ⟨rfl, rfl, rfl, rfl, (congrArg (fun z => some (Value.int .i64 z)) (by first | rfl | omega : ((k : Int) + 1 : Int) = ((k + 1) : Int))), trivial⟩ [1, 2] (by decide) rfl
    ·
     have p18 := of_decide_eq_false h13
     refine J.skip ?_
     refine J.seq ?_
     refine J.region ?_
     refine O.p (Pu.fieldAddr (off' := 4) Tryd.runUnderlying83 rfl Tryd.sizeOf3 rfl rfl rfl) rfl ?_
     refine O.q (Qt.ld rfl (Cel.var 0 rfl) (o := 0) (off := 4) rfl (Cut.one Tryd.isAgg3 rfl)) rfl ?_
     refine O.p (Pu.eql rfl rfl) rfl ?_
     refine O.nil ?_
     refine J.cond rfl (fun h19 => ?_) (fun h19 => ?_)
     ·
      have p20 := of_decide_eq_true h19
      refine J.region ?_
      refine O.p (Pu.fieldAddr (off' := 2) Tryd.runUnderlying59 rfl Tryd.sizeOf3 rfl rfl rfl) rfl ?_
      refine O.q (Qt.ld rfl (Cel.var 1 rfl) (o := 0) (off := 2) rfl (Cut.one Tryd.isAgg3 rfl)) rfl ?_
      refine O.p (Pu.add rfl rfl) rfl ?_
      refine O.p (Pu.fieldAddr (off' := 2) Tryd.runUnderlying59 rfl Tryd.sizeOf3 rfl rfl rfl) rfl ?_
      refine O.l0 (Lo.store 1 (vs := [.int .i64 (IntKind.i64.wrap (r.d2 + 1))]) [.int .i64 (IntKind.i64.wrap (r.d0 + 1)), .int .i64 r.d1, .int .i64 (IntKind.i64.wrap (r.d2 + 1)), .int .i64 r.d3, .int .i64 r.d4, .int .i64 r.d5, .int .i64 r.d6, .int .i64 r.d7, .int .i64 r.d8, .int .i64 r.d9, .int .i64 r.d10, .int .i64 r.d11] rfl rfl rfl (by exact Tryd.sizeOf3) rfl rfl rfl rfl rfl) ?_
      rintro _ _ rfl
      refine O.nil ?_
      refine J.blk ?_
      refine J.blk ?_
      refine J.region ?_
      refine O.p (Pu.move rfl) rfl ?_
      refine O.p (Pu.add' rfl rfl (by first | omega | (simp only [List.length_append, List.length_cons, List.length_nil, List.length_set]; omega))) rfl ?_
      refine O.p (Pu.assign rfl) rfl ?_
      refine O.nil ?_
      exact J.lp ⟨k + 1, (⟨IntKind.i64.wrap (r.d0 + 1), r.d1, IntKind.i64.wrap (r.d2 + 1), r.d3, r.d4, r.d5, r.d6, r.d7, r.d8, r.d9, r.d10, r.d11⟩ : Rep)⟩ (show (k + 1) ≤ l.length ∧ (⟨IntKind.i64.wrap (r.d0 + 1), r.d1, IntKind.i64.wrap (r.d2 + 1), r.d3, r.d4, r.d5, r.d6, r.d7, r.d8, r.d9, r.d10, r.d11⟩ : Rep) = Rp.cntK s l (k + 1) from ⟨by omega, (by first | (exfalso; omega) | (rw [Rp.cntK_no he6 ‹_›, ← hr]; done) | (rw [Rp.cntK_no he6 ‹_›, ← hr]; rfl) | (rw [Rp.cntK_yes he6 (Decidable.not_not.1 ‹_›), ← hr]; simp [Rp.cnt, Rp.inc, *]; done))⟩) (show l.length - (k + 1) < l.length - k from (by omega)) ⟨rfl, rfl, rfl, rfl, (congrArg (fun z => some (Value.int .i64 z)) (by first | rfl | omega : ((k : Int) + 1 : Int) = ((k + 1) : Int))), trivial⟩ [1, 2] (by decide) rfl
     ·
      have p21 := of_decide_eq_false h19
      refine J.skip ?_
      refine J.blk ?_
      refine J.blk ?_
      refine J.region ?_
      refine O.p (Pu.move rfl) rfl ?_
      refine O.p (Pu.add' rfl rfl (by first | omega | (simp only [List.length_append, List.length_cons, List.length_nil, List.length_set]; omega))) rfl ?_
      refine O.p (Pu.assign rfl) rfl ?_
      refine O.nil ?_
      exact J.lp ⟨k + 1, (⟨IntKind.i64.wrap (r.d0 + 1), r.d1, r.d2, r.d3, r.d4, r.d5, r.d6, r.d7, r.d8, r.d9, r.d10, r.d11⟩ : Rep)⟩ (show (k + 1) ≤ l.length ∧ (⟨IntKind.i64.wrap (r.d0 + 1), r.d1, r.d2, r.d3, r.d4, r.d5, r.d6, r.d7, r.d8, r.d9, r.d10, r.d11⟩ : Rep) = Rp.cntK s l (k + 1) from ⟨by omega, (by first | (exfalso; omega) | (rw [Rp.cntK_no he6 ‹_›, ← hr]; done) | (rw [Rp.cntK_no he6 ‹_›, ← hr]; rfl) | (rw [Rp.cntK_yes he6 (Decidable.not_not.1 ‹_›), ← hr]; simp [Rp.cnt, Rp.inc, *]; done))⟩) (show l.length - (k + 1) < l.length - k from (by omega)) ⟨rfl, rfl, rfl, rfl, (congrArg (fun z => some (Value.int .i64 z)) (by first | rfl | omega : ((k : Int) + 1 : Int) = ((k + 1) : Int))), trivial⟩ [1, 2] (by decide) rfl
   ·
    have p22 := of_decide_eq_false h11
    refine J.seq ?_
    refine J.region ?_
    refine O.p (Pu.eql rfl rfl) rfl ?_
    refine O.p (Pu.assign rfl) rfl ?_
    refine O.nil ?_
    refine J.cond rfl (fun h23 => ?_) (fun h23 => ?_)
    ·
     have p24 := of_decide_eq_true h23
     refine J.seq ?_
     refine J.region ?_
     refine O.p (Pu.fieldAddr (off' := 3) Tryd.runUnderlying59 rfl Tryd.sizeOf3 rfl rfl rfl) rfl ?_
     refine O.q (Qt.ld rfl (Cel.var 1 rfl) (o := 0) (off := 3) rfl (Cut.one Tryd.isAgg3 rfl)) rfl ?_
     refine O.p (Pu.add rfl rfl) rfl ?_
     refine O.p (Pu.fieldAddr (off' := 3) Tryd.runUnderlying59 rfl Tryd.sizeOf3 rfl rfl rfl) rfl ?_
     refine O.l0 (Lo.store 1 (vs := [.int .i64 (IntKind.i64.wrap (r.d3 + 1))]) [.int .i64 r.d0, .int .i64 r.d1, .int .i64 r.d2, .int .i64 (IntKind.i64.wrap (r.d3 + 1)), .int .i64 r.d4, .int .i64 r.d5, .int .i64 r.d6, .int .i64 r.d7, .int .i64 r.d8, .int .i64 r.d9, .int .i64 r.d10, .int .i64 r.d11] rfl rfl rfl (by exact Tryd.sizeOf3) rfl rfl rfl rfl rfl) ?_
     rintro _ _ rfl
     refine O.nil ?_
     refine J.region ?_
     refine O.p (Pu.fieldAddr (off' := 10) Tryd.runUnderlying59 rfl Tryd.sizeOf3 rfl rfl rfl) rfl ?_
     refine O.q (Qt.ld rfl (Cel.var 1 rfl) (o := 0) (off := 10) rfl (Cut.one Tryd.isAgg3 rfl)) rfl ?_
     refine O.p (Pu.fieldAddr (off' := 5) Tryd.runUnderlying83 rfl Tryd.sizeOf3 rfl rfl rfl) rfl ?_
     refine O.q (Qt.ld rfl (Cel.var 0 rfl) (o := 0) (off := 5) rfl (Cut.one Tryd.isAgg3 rfl)) rfl ?_
     refine O.p (Pu.max rfl rfl) rfl ?_
     refine O.p (Pu.fieldAddr (off' := 10) Tryd.runUnderlying59 rfl Tryd.sizeOf3 rfl rfl rfl) rfl ?_
     refine O.l0 (Lo.store 1 (vs := [.int .i64 (if e6.a > r.d10 then e6.a else r.d10)]) [.int .i64 r.d0, .int .i64 r.d1, .int .i64 r.d2, .int .i64 (IntKind.i64.wrap (r.d3 + 1)), .int .i64 r.d4, .int .i64 r.d5, .int .i64 r.d6, .int .i64 r.d7, .int .i64 r.d8, .int .i64 r.d9, .int .i64 (if e6.a > r.d10 then e6.a else r.d10), .int .i64 r.d11] rfl rfl rfl (by exact Tryd.sizeOf3) rfl rfl rfl rfl rfl) ?_
     rintro _ _ rfl
     refine O.nil ?_
     refine J.blk ?_
     refine J.blk ?_
     refine J.region ?_
     refine O.p (Pu.move rfl) rfl ?_
     refine O.p (Pu.add' rfl rfl (by first | omega | (simp only [List.length_append, List.length_cons, List.length_nil, List.length_set]; omega))) rfl ?_
     refine O.p (Pu.assign rfl) rfl ?_
     refine O.nil ?_
     exact J.lp ⟨k + 1, (⟨r.d0, r.d1, r.d2, IntKind.i64.wrap (r.d3 + 1), r.d4, r.d5, r.d6, r.d7, r.d8, r.d9, if e6.a > r.d10 then e6.a else r.d10, r.d11⟩ : Rep)⟩ (show (k + 1) ≤ l.length ∧ (⟨r.d0, r.d1, r.d2, IntKind.i64.wrap (r.d3 + 1), r.d4, r.d5, r.d6, r.d7, r.d8, r.d9, if e6.a > r.d10 then e6.a else r.d10, r.d11⟩ : Rep) = Rp.cntK s l (k + 1) from ⟨by omega, (by first | (exfalso; omega) | (rw [Rp.cntK_no he6 ‹_›, ← hr]; done) | (rw [Rp.cntK_no he6 ‹_›, ← hr]; rfl) | (rw [Rp.cntK_yes he6 (Decidable.not_not.1 ‹_›), ← hr]; simp [Rp.cnt, Rp.inc, *]; done))⟩) (show l.length - (k + 1) < l.length - k from (by omega)) ⟨rfl, rfl, rfl, rfl, (congrArg (fun z => some (Value.int .i64 z)) (by first | rfl | omega : ((k : Int) + 1 : Int) = ((k + 1) : Int))), trivial⟩ [1, 2] (by decide) rfl
    ·
     have p25 := of_decide_eq_false h23
     refine J.seq ?_
     refine J.region ?_
     refine O.p (Pu.eql rfl rfl) rfl ?_
     refine O.p (Pu.assign rfl) rfl ?_
     refine O.nil ?_
     refine J.cond rfl (fun h26 => ?_) (fun h26 => ?_)
     ·
      have p27 := of_decide_eq_true h26
      refine J.seq ?_
      refine J.region ?_
      refine O.p (Pu.fieldAddr (off' := 4) Tryd.runUnderlying83 rfl Tryd.sizeOf3 rfl rfl rfl) rfl ?_
      refine O.q (Qt.ld rfl (Cel.var 0 rfl) (o := 0) (off := 4) rfl (Cut.one Tryd.isAgg3 rfl)) rfl ?_
      refine O.p (Pu.eql rfl rfl) rfl ?_
      refine O.nil ?_
      refine J.cond rfl (fun h28 => ?_) (fun h28 => ?_)
      ·
       have p29 := of_decide_eq_true h28
       refine J.region ?_
       refine O.p (Pu.fieldAddr (off' := 4) Tryd.runUnderlying59 rfl Tryd.sizeOf3 rfl rfl rfl) rfl ?_
       refine O.q (Qt.ld rfl (Cel.var 1 rfl) (o := 0) (off := 4) rfl (Cut.one Tryd.isAgg3 rfl)) rfl ?_
       refine O.p (Pu.add rfl rfl) rfl ?_
       refine O.p (Pu.fieldAddr (off' := 4) Tryd.runUnderlying59 rfl Tryd.sizeOf3 rfl rfl rfl) rfl ?_
       refine O.l0 (Lo.store 1 (vs := [.int .i64 (IntKind.i64.wrap (r.d4 + 1))]) [.int .i64 r.d0, .int .i64 r.d1, .int .i64 r.d2, .int .i64 r.d3, .int .i64 (IntKind.i64.wrap (r.d4 + 1)), .int .i64 r.d5, .int .i64 r.d6, .int .i64 r.d7, .int .i64 r.d8, .int .i64 r.d9, .int .i64 r.d10, .int .i64 r.d11] rfl rfl rfl (by exact Tryd.sizeOf3) rfl rfl rfl rfl rfl) ?_
       rintro _ _ rfl
       refine O.nil ?_
       refine J.blk ?_
       refine J.blk ?_
       refine J.region ?_
       refine O.p (Pu.move rfl) rfl ?_
       refine O.p (Pu.add' rfl rfl (by first | omega | (simp only [List.length_append, List.length_cons, List.length_nil, List.length_set]; omega))) rfl ?_
       refine O.p (Pu.assign rfl) rfl ?_
       refine O.nil ?_
       exact J.lp ⟨k + 1, (⟨r.d0, r.d1, r.d2, r.d3, IntKind.i64.wrap (r.d4 + 1), r.d5, r.d6, r.d7, r.d8, r.d9, r.d10, r.d11⟩ : Rep)⟩ (show (k + 1) ≤ l.length ∧ (⟨r.d0, r.d1, r.d2, r.d3, IntKind.i64.wrap (r.d4 + 1), r.d5, r.d6, r.d7, r.d8, r.d9, r.d10, r.d11⟩ : Rep) = Rp.cntK s l (k + 1) from ⟨by omega, (by first | (exfalso; omega) | (rw [Rp.cntK_no he6 ‹_›, ← hr]; done) | (rw [Rp.cntK_no he6 ‹_›, ← hr]; rfl) | (rw [Rp.cntK_yes he6 (Decidable.not_not.1 ‹_›), ← hr]; simp [Rp.cnt, Rp.inc, *]; done))⟩) (show l.length - (k + 1) < l.length - k from (by omega)) ⟨rfl, rfl, rfl, rfl, (congrArg (fun z => some (Value.int .i64 z)) (by first | rfl | omega : ((k : Int) + 1 : Int) = ((k + 1) : Int))), trivial⟩ [1, 2] (by decide) rfl
      ·
       have p30 := of_decide_eq_false h28
       refine J.region ?_
       refine O.p (Pu.fieldAddr (off' := 5) Tryd.runUnderlying59 rfl Tryd.sizeOf3 rfl rfl rfl) rfl ?_
       refine O.q (Qt.ld rfl (Cel.var 1 rfl) (o := 0) (off := 5) rfl (Cut.one Tryd.isAgg3 rfl)) rfl ?_
       refine O.p (Pu.add rfl rfl) rfl ?_
       refine O.p (Pu.fieldAddr (off' := 5) Tryd.runUnderlying59 rfl Tryd.sizeOf3 rfl rfl rfl) rfl ?_
       refine O.l0 (Lo.store 1 (vs := [.int .i64 (IntKind.i64.wrap (r.d5 + 1))]) [.int .i64 r.d0, .int .i64 r.d1, .int .i64 r.d2, .int .i64 r.d3, .int .i64 r.d4, .int .i64 (IntKind.i64.wrap (r.d5 + 1)), .int .i64 r.d6, .int .i64 r.d7, .int .i64 r.d8, .int .i64 r.d9, .int .i64 r.d10, .int .i64 r.d11] rfl rfl rfl (by exact Tryd.sizeOf3) rfl rfl rfl rfl rfl) ?_
       rintro _ _ rfl
       refine O.nil ?_
       refine J.blk ?_
       refine J.blk ?_
       refine J.region ?_
       refine O.p (Pu.move rfl) rfl ?_
       refine O.p (Pu.add' rfl rfl (by first | omega | (simp only [List.length_append, List.length_cons, List.length_nil, List.length_set]; omega))) rfl ?_
       refine O.p (Pu.assign rfl) rfl ?_
       refine O.nil ?_
       exact J.lp ⟨k + 1, (⟨r.d0, r.d1, r.d2, r.d3, r.d4, IntKind.i64.wrap (r.d5 + 1), r.d6, r.d7, r.d8, r.d9, r.d10, r.d11⟩ : Rep)⟩ (show (k + 1) ≤ l.length ∧ (⟨r.d0, r.d1, r.d2, r.d3, r.d4, IntKind.i64.wrap (r.d5 + 1), r.d6, r.d7, r.d8, r.d9, r.d10, r.d11⟩ : Rep) = Rp.cntK s l (k + 1) from ⟨by omega, (by first | (exfalso; omega) | (rw [Rp.cntK_no he6 ‹_›, ← hr]; done) | (rw [Rp.cntK_no he6 ‹_›, ← hr]; rfl) | (rw [Rp.cntK_yes he6 (Decidable.not_not.1 ‹_›), ← hr]; simp [Rp.cnt, Rp.inc, *]; done))⟩) (show l.length - (k + 1) < l.length - k from (by omega)) ⟨rfl, rfl, rfl, rfl, (congrArg (fun z => some (Value.int .i64 z)) (by first | rfl | omega : ((k : Int) + 1 : Int) = ((k + 1) : Int))), trivial⟩ [1, 2] (by decide) rfl
     ·
      have p31 := of_decide_eq_false h26
      refine J.seq ?_
      refine J.region ?_
      refine O.p (Pu.eql rfl rfl) rfl ?_
      refine O.p (Pu.assign rfl) rfl ?_
      refine O.nil ?_
      refine J.cond rfl (fun h32 => ?_) (fun h32 => ?_)
      ·
       have p33 := of_decide_eq_true h32
       refine J.region ?_
       refine O.p (Pu.fieldAddr (off' := 6) Tryd.runUnderlying59 rfl Tryd.sizeOf3 rfl rfl rfl) rfl ?_
       refine O.q (Qt.ld rfl (Cel.var 1 rfl) (o := 0) (off := 6) rfl (Cut.one Tryd.isAgg3 rfl)) rfl ?_
       refine O.p (Pu.add rfl rfl) rfl ?_
       refine O.p (Pu.fieldAddr (off' := 6) Tryd.runUnderlying59 rfl Tryd.sizeOf3 rfl rfl rfl) rfl ?_
       refine O.l0 (Lo.store 1 (vs := [.int .i64 (IntKind.i64.wrap (r.d6 + 1))]) [.int .i64 r.d0, .int .i64 r.d1, .int .i64 r.d2, .int .i64 r.d3, .int .i64 r.d4, .int .i64 r.d5, .int .i64 (IntKind.i64.wrap (r.d6 + 1)), .int .i64 r.d7, .int .i64 r.d8, .int .i64 r.d9, .int .i64 r.d10, .int .i64 r.d11] rfl rfl rfl (by exact Tryd.sizeOf3) rfl rfl rfl rfl rfl) ?_
       rintro _ _ rfl
       refine O.nil ?_
       refine J.blk ?_
       refine J.blk ?_
       refine J.region ?_
       refine O.p (Pu.move rfl) rfl ?_
       refine O.p (Pu.add' rfl rfl (by first | omega | (simp only [List.length_append, List.length_cons, List.length_nil, List.length_set]; omega))) rfl ?_
       refine O.p (Pu.assign rfl) rfl ?_
       refine O.nil ?_
       exact J.lp ⟨k + 1, (⟨r.d0, r.d1, r.d2, r.d3, r.d4, r.d5, IntKind.i64.wrap (r.d6 + 1), r.d7, r.d8, r.d9, r.d10, r.d11⟩ : Rep)⟩ (show (k + 1) ≤ l.length ∧ (⟨r.d0, r.d1, r.d2, r.d3, r.d4, r.d5, IntKind.i64.wrap (r.d6 + 1), r.d7, r.d8, r.d9, r.d10, r.d11⟩ : Rep) = Rp.cntK s l (k + 1) from ⟨by omega, (by first | (exfalso; omega) | (rw [Rp.cntK_no he6 ‹_›, ← hr]; done) | (rw [Rp.cntK_no he6 ‹_›, ← hr]; rfl) | (rw [Rp.cntK_yes he6 (Decidable.not_not.1 ‹_›), ← hr]; simp [Rp.cnt, Rp.inc, *]; done))⟩) (show l.length - (k + 1) < l.length - k from (by omega)) ⟨rfl, rfl, rfl, rfl, (congrArg (fun z => some (Value.int .i64 z)) (by first | rfl | omega : ((k : Int) + 1 : Int) = ((k + 1) : Int))), trivial⟩ [1, 2] (by decide) rfl
      ·
       have p34 := of_decide_eq_false h32
       refine J.seq ?_
       refine J.region ?_
       refine O.p (Pu.eql rfl rfl) rfl ?_
       refine O.p (Pu.assign rfl) rfl ?_
       refine O.nil ?_
       refine J.cond rfl (fun h35 => ?_) (fun h35 => ?_)
       ·
        have p36 := of_decide_eq_true h35
        refine J.region ?_
        refine O.p (Pu.fieldAddr (off' := 7) Tryd.runUnderlying59 rfl Tryd.sizeOf3 rfl rfl rfl) rfl ?_
        refine O.q (Qt.ld rfl (Cel.var 1 rfl) (o := 0) (off := 7) rfl (Cut.one Tryd.isAgg3 rfl)) rfl ?_
        refine O.p (Pu.add rfl rfl) rfl ?_
        refine O.p (Pu.fieldAddr (off' := 7) Tryd.runUnderlying59 rfl Tryd.sizeOf3 rfl rfl rfl) rfl ?_
        refine O.l0 (Lo.store 1 (vs := [.int .i64 (IntKind.i64.wrap (r.d7 + 1))]) [.int .i64 r.d0, .int .i64 r.d1, .int .i64 r.d2, .int .i64 r.d3, .int .i64 r.d4, .int .i64 r.d5, .int .i64 r.d6, .int .i64 (IntKind.i64.wrap (r.d7 + 1)), .int .i64 r.d8, .int .i64 r.d9, .int .i64 r.d10, .int .i64 r.d11] rfl rfl rfl (by exact Tryd.sizeOf3) rfl rfl rfl rfl rfl) ?_
        rintro _ _ rfl
        refine O.nil ?_
        refine J.blk ?_
        refine J.blk ?_
        refine J.region ?_
        refine O.p (Pu.move rfl) rfl ?_
        refine O.p (Pu.add' rfl rfl (by first | omega | (simp only [List.length_append, List.length_cons, List.length_nil, List.length_set]; omega))) rfl ?_
        refine O.p (Pu.assign rfl) rfl ?_
        refine O.nil ?_
        exact J.lp ⟨k + 1, (⟨r.d0, r.d1, r.d2, r.d3, r.d4, r.d5, r.d6, IntKind.i64.wrap (r.d7 + 1), r.d8, r.d9, r.d10, r.d11⟩ : Rep)⟩ (show (k + 1) ≤ l.length ∧ (⟨r.d0, r.d1, r.d2, r.d3, r.d4, r.d5, r.d6, IntKind.i64.wrap (r.d7 + 1), r.d8, r.d9, r.d10, r.d11⟩ : Rep) = Rp.cntK s l (k + 1) from ⟨by omega, (by first | (exfalso; omega) | (rw [Rp.cntK_no he6 ‹_›, ← hr]; done) | (rw [Rp.cntK_no he6 ‹_›, ← hr]; rfl) | (rw [Rp.cntK_yes he6 (Decidable.not_not.1 ‹_›), ← hr]; simp [Rp.cnt, Rp.inc, *]; done))⟩) (show l.length - (k + 1) < l.length - k from (by omega)) ⟨rfl, rfl, rfl, rfl, (congrArg (fun z => some (Value.int .i64 z)) (by first | rfl | omega : ((k : Int) + 1 : Int) = ((k + 1) : Int))), trivial⟩ [1, 2] (by decide) rfl
       ·
        have p37 := of_decide_eq_false h35
        refine J.seq ?_
        refine J.region ?_
        refine O.p (Pu.eql rfl rfl) rfl ?_
        refine O.p (Pu.assign rfl) rfl ?_
        refine O.nil ?_
        refine J.cond rfl (fun h38 => ?_) (fun h38 => ?_)
        ·
         have p39 := of_decide_eq_true h38
         refine J.region ?_
         refine O.p (Pu.fieldAddr (off' := 8) Tryd.runUnderlying59 rfl Tryd.sizeOf3 rfl rfl rfl) rfl ?_
         refine O.q (Qt.ld rfl (Cel.var 1 rfl) (o := 0) (off := 8) rfl (Cut.one Tryd.isAgg3 rfl)) rfl ?_
         refine O.p (Pu.add rfl rfl) rfl ?_
         refine O.p (Pu.fieldAddr (off' := 8) Tryd.runUnderlying59 rfl Tryd.sizeOf3 rfl rfl rfl) rfl ?_
         refine O.l0 (Lo.store 1 (vs := [.int .i64 (IntKind.i64.wrap (r.d8 + 1))]) [.int .i64 r.d0, .int .i64 r.d1, .int .i64 r.d2, .int .i64 r.d3, .int .i64 r.d4, .int .i64 r.d5, .int .i64 r.d6, .int .i64 r.d7, .int .i64 (IntKind.i64.wrap (r.d8 + 1)), .int .i64 r.d9, .int .i64 r.d10, .int .i64 r.d11] rfl rfl rfl (by exact Tryd.sizeOf3) rfl rfl rfl rfl rfl) ?_
         rintro _ _ rfl
         refine O.nil ?_
         refine J.blk ?_
         refine J.blk ?_
         refine J.region ?_
         refine O.p (Pu.move rfl) rfl ?_
         refine O.p (Pu.add' rfl rfl (by first | omega | (simp only [List.length_append, List.length_cons, List.length_nil, List.length_set]; omega))) rfl ?_
         refine O.p (Pu.assign rfl) rfl ?_
         refine O.nil ?_
         exact J.lp ⟨k + 1, (⟨r.d0, r.d1, r.d2, r.d3, r.d4, r.d5, r.d6, r.d7, IntKind.i64.wrap (r.d8 + 1), r.d9, r.d10, r.d11⟩ : Rep)⟩ (show (k + 1) ≤ l.length ∧ (⟨r.d0, r.d1, r.d2, r.d3, r.d4, r.d5, r.d6, r.d7, IntKind.i64.wrap (r.d8 + 1), r.d9, r.d10, r.d11⟩ : Rep) = Rp.cntK s l (k + 1) from ⟨by omega, (by first | (exfalso; omega) | (rw [Rp.cntK_no he6 ‹_›, ← hr]; done) | (rw [Rp.cntK_no he6 ‹_›, ← hr]; rfl) | (rw [Rp.cntK_yes he6 (Decidable.not_not.1 ‹_›), ← hr]; simp [Rp.cnt, Rp.inc, *]; done))⟩) (show l.length - (k + 1) < l.length - k from (by omega)) ⟨rfl, rfl, rfl, rfl, (congrArg (fun z => some (Value.int .i64 z)) (by first | rfl | omega : ((k : Int) + 1 : Int) = ((k + 1) : Int))), trivial⟩ [1, 2] (by decide) rfl
        ·
         have p40 := of_decide_eq_false h38
         refine J.seq ?_
         refine J.region ?_
         refine O.p (Pu.eql rfl rfl) rfl ?_
         refine O.p (Pu.assign rfl) rfl ?_
         refine O.nil ?_
         refine J.cond rfl (fun h41 => ?_) (fun h41 => ?_)
         ·
          have p42 := of_decide_eq_true h41
          refine J.region ?_
          refine O.p (Pu.fieldAddr (off' := 9) Tryd.runUnderlying59 rfl Tryd.sizeOf3 rfl rfl rfl) rfl ?_
          refine O.q (Qt.ld rfl (Cel.var 1 rfl) (o := 0) (off := 9) rfl (Cut.one Tryd.isAgg3 rfl)) rfl ?_
          refine O.p (Pu.add rfl rfl) rfl ?_
          refine O.p (Pu.fieldAddr (off' := 9) Tryd.runUnderlying59 rfl Tryd.sizeOf3 rfl rfl rfl) rfl ?_
          refine O.l0 (Lo.store 1 (vs := [.int .i64 (IntKind.i64.wrap (r.d9 + 1))]) [.int .i64 r.d0, .int .i64 r.d1, .int .i64 r.d2, .int .i64 r.d3, .int .i64 r.d4, .int .i64 r.d5, .int .i64 r.d6, .int .i64 r.d7, .int .i64 r.d8, .int .i64 (IntKind.i64.wrap (r.d9 + 1)), .int .i64 r.d10, .int .i64 r.d11] rfl rfl rfl (by exact Tryd.sizeOf3) rfl rfl rfl rfl rfl) ?_
          rintro _ _ rfl
          refine O.nil ?_
          refine J.blk ?_
          refine J.blk ?_
          refine J.region ?_
          refine O.p (Pu.move rfl) rfl ?_
          refine O.p (Pu.add' rfl rfl (by first | omega | (simp only [List.length_append, List.length_cons, List.length_nil, List.length_set]; omega))) rfl ?_
          refine O.p (Pu.assign rfl) rfl ?_
          refine O.nil ?_
          exact J.lp ⟨k + 1, (⟨r.d0, r.d1, r.d2, r.d3, r.d4, r.d5, r.d6, r.d7, r.d8, IntKind.i64.wrap (r.d9 + 1), r.d10, r.d11⟩ : Rep)⟩ (show (k + 1) ≤ l.length ∧ (⟨r.d0, r.d1, r.d2, r.d3, r.d4, r.d5, r.d6, r.d7, r.d8, IntKind.i64.wrap (r.d9 + 1), r.d10, r.d11⟩ : Rep) = Rp.cntK s l (k + 1) from ⟨by omega, (by first | (exfalso; omega) | (rw [Rp.cntK_no he6 ‹_›, ← hr]; done) | (rw [Rp.cntK_no he6 ‹_›, ← hr]; rfl) | (rw [Rp.cntK_yes he6 (Decidable.not_not.1 ‹_›), ← hr]; simp [Rp.cnt, Rp.inc, *]; done))⟩) (show l.length - (k + 1) < l.length - k from (by omega)) ⟨rfl, rfl, rfl, rfl, (congrArg (fun z => some (Value.int .i64 z)) (by first | rfl | omega : ((k : Int) + 1 : Int) = ((k + 1) : Int))), trivial⟩ [1, 2] (by decide) rfl
         ·
          have p43 := of_decide_eq_false h41
          refine J.skip ?_
          refine J.blk ?_
          refine J.blk ?_
          refine J.region ?_
          refine O.p (Pu.move rfl) rfl ?_
          refine O.p (Pu.add' rfl rfl (by first | omega | (simp only [List.length_append, List.length_cons, List.length_nil, List.length_set]; omega))) rfl ?_
          refine O.p (Pu.assign rfl) rfl ?_
          refine O.nil ?_
          exact J.lp ⟨k + 1, (⟨r.d0, r.d1, r.d2, r.d3, r.d4, r.d5, r.d6, r.d7, r.d8, r.d9, r.d10, r.d11⟩ : Rep)⟩ (show (k + 1) ≤ l.length ∧ (⟨r.d0, r.d1, r.d2, r.d3, r.d4, r.d5, r.d6, r.d7, r.d8, r.d9, r.d10, r.d11⟩ : Rep) = Rp.cntK s l (k + 1) from ⟨by omega, (by first | (exfalso; omega) | (rw [Rp.cntK_no he6 ‹_›, ← hr]; done) | (rw [Rp.cntK_no he6 ‹_›, ← hr]; rfl) | (rw [Rp.cntK_yes he6 (Decidable.not_not.1 ‹_›), ← hr]; simp [Rp.cnt, Rp.inc, *]; done))⟩) (show l.length - (k + 1) < l.length - k from (by omega)) ⟨rfl, rfl, rfl, rfl, (congrArg (fun z => some (Value.int .i64 z)) (by first | rfl | omega : ((k : Int) + 1 : Int) = ((k + 1) : Int))), trivial⟩ [1, 2] (by decide) rfl
 ·
  have p44 := of_decide_eq_false h4
  refine J.exit _ rfl ?_
  refine J.seq ?_
  refine J.region ?_
  refine O.p (Pu.fieldAddr (off' := 4) Tryd.runUnderlying59 rfl Tryd.sizeOf3 rfl rfl rfl) rfl ?_
  refine O.q (Qt.ld rfl (Cel.var 0 rfl) (o := 0) (off := 4) rfl (Cut.one Tryd.isAgg3 rfl)) rfl ?_
  refine O.p (Pu.fieldAddr (off' := 0) Tryd.runUnderlying59 rfl Tryd.sizeOf3 rfl rfl rfl) rfl ?_
  refine O.q (Qt.ld rfl (Cel.var 0 rfl) (o := 0) (off := 0) rfl (Cut.one Tryd.isAgg3 rfl)) rfl ?_
  refine O.l (Lo.call [.int .i64 r.d4, .int .i64 r.d0] (by exact Tryd.call93) rfl (r45_share r.d4 r.d0) [] [0, 1] (by decide) rfl [var g2 [.int .i64 r.d0, .int .i64 r.d1, .int .i64 r.d2, .int .i64 r.d3, .int .i64 r.d4, .int .i64 r.d5, .int .i64 r.d6, .int .i64 r.d7, .int .i64 r.d8, .int .i64 r.d9, .int .i64 r.d10, .int .i64 r.d11] 59, var g1 [.int .i64 0, .int .i64 0, .int .i64 0, .int .i64 0, .int .i64 0, .int .i64 0, .int .i64 0, .int .i64 0, .int .i64 0, .int .i64 0, .int .i64 0, .int .i64 0] 59] rfl RoOk.nil) rfl ?_
  rintro _ _ ⟨_, ⟨rfl, rfl⟩, rfl⟩
  refine O.p (Pu.fieldAddr (off' := 11) Tryd.runUnderlying59 rfl Tryd.sizeOf3 rfl rfl rfl) rfl ?_
  refine O.l0 (Lo.store 0 (vs := [.int .i64 (Rp.share r.d4 r.d0)]) [.int .i64 r.d0, .int .i64 r.d1, .int .i64 r.d2, .int .i64 r.d3, .int .i64 r.d4, .int .i64 r.d5, .int .i64 r.d6, .int .i64 r.d7, .int .i64 r.d8, .int .i64 r.d9, .int .i64 r.d10, .int .i64 (Rp.share r.d4 r.d0)] rfl rfl rfl (by exact Tryd.sizeOf3) rfl rfl rfl rfl rfl) ?_
  rintro _ _ rfl
  refine O.nil ?_
  refine J.seq ?_
  refine J.region ?_
  refine O.q (Qt.ld rfl (Cel.var 0 rfl) (o := 0) (off := 0) rfl (Cut.agg [.int .i64 r.d0, .int .i64 r.d1, .int .i64 r.d2, .int .i64 r.d3, .int .i64 r.d4, .int .i64 r.d5, .int .i64 r.d6, .int .i64 r.d7, .int .i64 r.d8, .int .i64 r.d9, .int .i64 r.d10, .int .i64 (Rp.share r.d4 r.d0)] Tryd.isAgg59 Tryd.sizeOf59 rfl rfl)) rfl ?_
  refine O.l0 (Lo.store 1 (vs := [.int .i64 r.d0, .int .i64 r.d1, .int .i64 r.d2, .int .i64 r.d3, .int .i64 r.d4, .int .i64 r.d5, .int .i64 r.d6, .int .i64 r.d7, .int .i64 r.d8, .int .i64 r.d9, .int .i64 r.d10, .int .i64 (Rp.share r.d4 r.d0)]) [.int .i64 r.d0, .int .i64 r.d1, .int .i64 r.d2, .int .i64 r.d3, .int .i64 r.d4, .int .i64 r.d5, .int .i64 r.d6, .int .i64 r.d7, .int .i64 r.d8, .int .i64 r.d9, .int .i64 r.d10, .int .i64 (Rp.share r.d4 r.d0)] rfl rfl rfl (by exact Tryd.sizeOf59) rfl rfl rfl rfl rfl) ?_
  rintro _ _ rfl
  refine O.nil ?_
  exact J.ret (Fin.ret (rs := [.cell 4 59]) rfl [_] ⟨⟨_, _, 0, 0, _, rfl, (Cel.var 1 rfl), rfl, (Cut.agg [.int .i64 r.d0, .int .i64 r.d1, .int .i64 r.d2, .int .i64 r.d3, .int .i64 r.d4, .int .i64 r.d5, .int .i64 r.d6, .int .i64 r.d7, .int .i64 r.d8, .int .i64 r.d9, .int .i64 r.d10, .int .i64 (Rp.share r.d4 r.d0)] Tryd.isAgg59 Tryd.sizeOf59 rfl rfl)⟩, trivial⟩ [] (by decide) [] rfl ⟨(by rw [Rp.counted, show l.length = k from by omega, ← hr]; rfl), rfl⟩)

set_option maxRecDepth 100000 in
theorem r45_Of (s : Int) (lv : Value) (l : List Ev) (hl : l.length ≤ 80000) : Tri Tryd.prog 30 #[.int .i64 s, lv] [rd lv 7 (l.map Ev.cells)] [] (fun v L' => v = .tuple #[.agg #[.int .i64 (((Rp.of s l).1).d0), .int .i64 (((Rp.of s l).1).d1), .int .i64 (((Rp.of s l).1).d2), .int .i64 (((Rp.of s l).1).d3), .int .i64 (((Rp.of s l).1).d4), .int .i64 (((Rp.of s l).1).d5), .int .i64 (((Rp.of s l).1).d6), .int .i64 (((Rp.of s l).1).d7), .int .i64 (((Rp.of s l).1).d8), .int .i64 (((Rp.of s l).1).d9), .int .i64 (((Rp.of s l).1).d10), .int .i64 (((Rp.of s l).1).d11)], .int .i64 (Rp.of s l).2.1, .int .i64 (Rp.of s l).2.2] ∧ L' = []) := by
 refine Tri.enter (args := [.int .i64 s, lv]) (body := _) 24 Tryd.func30 rfl Tryd.ntmps30 rfl ?_
 intro w0
 refine J.seq ?_
 refine J.region ?_
 refine O.l (Lo.alloc [.int .i64 0, .int .i64 0, .int .i64 0, .int .i64 0, .int .i64 0, .int .i64 0, .int .i64 0, .int .i64 0, .int .i64 0, .int .i64 0, .int .i64 0, .int .i64 0] (by exact Tryd.zeroValue59) rfl) rfl ?_
 rintro _ _ ⟨g1, rfl, rfl⟩
 refine O.p (Pu.assign rfl) rfl ?_
 refine O.p (Pu.assign rfl) rfl ?_
 refine O.nil ?_
 refine J.seq ?_
 refine J.seq ?_
 refine J.region ?_
 refine O.p (Pu.move rfl) rfl ?_
 refine O.l (Lo.call [lv] (by exact Tryd.call66) rfl (r41_Read lv l (by omega)) [] [0] (by decide) rfl [var g1 [.int .i64 0, .int .i64 0, .int .i64 0, .int .i64 0, .int .i64 0, .int .i64 0, .int .i64 0, .int .i64 0, .int .i64 0, .int .i64 0, .int .i64 0, .int .i64 0] 59] rfl (RoOk.ro 0 rfl [] rfl RoOk.nil)) rfl ?_
 rintro _ _ ⟨_, ⟨V2, rfl, rfl⟩, rfl⟩
 refine O.p (Pu.move rfl) rfl ?_
 refine O.p (Pu.extract rfl rfl) rfl ?_
 refine O.p (Pu.extract rfl rfl) rfl ?_
 refine O.p (Pu.extract rfl rfl) rfl ?_
 refine O.p (Pu.assign rfl) rfl ?_
 refine O.p (Pu.assign rfl) rfl ?_
 refine O.p (Pu.assign rfl) rfl ?_
 refine O.nil ?_
 refine J.seq ?_
 refine J.region ?_
 refine O.p (Pu.move rfl) rfl ?_
 refine O.p (Pu.neq rfl rfl) rfl ?_
 refine O.nil ?_
 refine J.cond rfl (fun h4 => ?_) (fun h4 => ?_)
 ·
  have p5 := of_decide_eq_true h4
  refine J.seq ?_
  refine J.region ?_
  refine O.p (Pu.build [] [.int .i64 0, .int .i64 0, .int .i64 0, .int .i64 0, .int .i64 0, .int .i64 0, .int .i64 0, .int .i64 0, .int .i64 0, .int .i64 0, .int .i64 0, .int .i64 0] #[(0, 1), (1, 1), (2, 1), (3, 1), (4, 1), (5, 1), (6, 1), (7, 1), (8, 1), (9, 1), (10, 1), (11, 1)] Tryd.runUnderlying59 Tryd.zeroValue59 (places59 Tryd.underlying59) rfl (by kernel_rfl)) rfl ?_
  refine O.p (Pu.move rfl) rfl ?_
  refine O.p (Pu.move rfl) rfl ?_
  refine O.l0 (Lo.store 1 (vs := [.int .i64 0, .int .i64 0, .int .i64 0, .int .i64 0, .int .i64 0, .int .i64 0, .int .i64 0, .int .i64 0, .int .i64 0, .int .i64 0, .int .i64 0, .int .i64 0]) [.int .i64 0, .int .i64 0, .int .i64 0, .int .i64 0, .int .i64 0, .int .i64 0, .int .i64 0, .int .i64 0, .int .i64 0, .int .i64 0, .int .i64 0, .int .i64 0] rfl rfl rfl (by exact Tryd.sizeOf59) rfl rfl rfl rfl rfl) ?_
  rintro _ _ rfl
  refine O.p (Pu.assign rfl) rfl ?_
  refine O.p (Pu.assign rfl) rfl ?_
  refine O.nil ?_
  exact J.ret (Fin.ret (rs := [.cell 4 59, .tmp 5, .tmp 6]) rfl [_, _, _] ⟨⟨_, _, 0, 0, _, rfl, (Cel.var 1 rfl), rfl, (Cut.agg [.int .i64 0, .int .i64 0, .int .i64 0, .int .i64 0, .int .i64 0, .int .i64 0, .int .i64 0, .int .i64 0, .int .i64 0, .int .i64 0, .int .i64 0, .int .i64 0] Tryd.isAgg59 Tryd.sizeOf59 rfl rfl)⟩, rfl, rfl, trivial⟩ [] (by decide) [] rfl ⟨(by rw [Rp.of_no ‹_›]; rfl), rfl⟩)
 ·
  have p6 := of_decide_eq_false h4
  refine J.skip ?_
  refine J.seq ?_
  refine J.region ?_
  refine O.p (Pu.move rfl) rfl ?_
  refine O.p (Pu.move rfl) rfl ?_
  refine O.l (Lo.call [.int .i64 s, lv] (by exact Tryd.call67) rfl (r45_counted s lv l (by omega)) [] [0, 1] (by decide) rfl [row V2 98 8 (((Ld.read l).1).map Ft.cells), var g1 [.int .i64 0, .int .i64 0, .int .i64 0, .int .i64 0, .int .i64 0, .int .i64 0, .int .i64 0, .int .i64 0, .int .i64 0, .int .i64 0, .int .i64 0, .int .i64 0] 59] rfl (RoOk.ro 0 rfl [] rfl RoOk.nil)) rfl ?_
  rintro _ _ ⟨_, ⟨rfl, rfl⟩, rfl⟩
  refine O.l0 (Lo.store 1 (vs := [.int .i64 ((Rp.counted s l).d0), .int .i64 ((Rp.counted s l).d1), .int .i64 ((Rp.counted s l).d2), .int .i64 ((Rp.counted s l).d3), .int .i64 ((Rp.counted s l).d4), .int .i64 ((Rp.counted s l).d5), .int .i64 ((Rp.counted s l).d6), .int .i64 ((Rp.counted s l).d7), .int .i64 ((Rp.counted s l).d8), .int .i64 ((Rp.counted s l).d9), .int .i64 ((Rp.counted s l).d10), .int .i64 ((Rp.counted s l).d11)]) [.int .i64 ((Rp.counted s l).d0), .int .i64 ((Rp.counted s l).d1), .int .i64 ((Rp.counted s l).d2), .int .i64 ((Rp.counted s l).d3), .int .i64 ((Rp.counted s l).d4), .int .i64 ((Rp.counted s l).d5), .int .i64 ((Rp.counted s l).d6), .int .i64 ((Rp.counted s l).d7), .int .i64 ((Rp.counted s l).d8), .int .i64 ((Rp.counted s l).d9), .int .i64 ((Rp.counted s l).d10), .int .i64 ((Rp.counted s l).d11)] rfl rfl rfl (by exact Tryd.sizeOf59) rfl rfl rfl rfl rfl) ?_
  rintro _ _ rfl
  refine O.p (Pu.assign rfl) rfl ?_
  refine O.p (Pu.assign rfl) rfl ?_
  refine O.nil ?_
  exact J.ret (Fin.ret (rs := [.cell 4 59, .tmp 5, .tmp 6]) rfl [_, _, _] ⟨⟨_, _, 0, 0, _, rfl, (Cel.var 1 rfl), rfl, (Cut.agg [.int .i64 ((Rp.counted s l).d0), .int .i64 ((Rp.counted s l).d1), .int .i64 ((Rp.counted s l).d2), .int .i64 ((Rp.counted s l).d3), .int .i64 ((Rp.counted s l).d4), .int .i64 ((Rp.counted s l).d5), .int .i64 ((Rp.counted s l).d6), .int .i64 ((Rp.counted s l).d7), .int .i64 ((Rp.counted s l).d8), .int .i64 ((Rp.counted s l).d9), .int .i64 ((Rp.counted s l).d10), .int .i64 ((Rp.counted s l).d11)] Tryd.isAgg59 Tryd.sizeOf59 rfl rfl)⟩, rfl, rfl, trivial⟩ [] (by decide) [] rfl ⟨(by rw [Rp.of_yes (Decidable.not_not.1 ‹_›)]; rfl), rfl⟩)

set_option maxRecDepth 100000 in
set_option maxHeartbeats 2000000 in
theorem rp_Levels (s n : Int) (lv : Value) (l : List Ev) (hl : l.length ≤ 80000) : Tri Tryd.prog 31 #[.int .i64 s, .int .i64 n, lv] [rd lv 7 (l.map Ev.cells)] [] (fun v L' => ∃ V W, v = .tuple #[V, W, .int .i64 (Rp.levE n l)] ∧ L' = [row V 3 1 ((Rp.levA s n l).map encZ), row W 3 1 ((Rp.levG s n l).map encZ)]) := by
 refine Tri.enter (args := [.int .i64 s, .int .i64 n, lv]) (body := _) 81 Tryd.func31 rfl Tryd.ntmps31 rfl ?_
 intro w0
 refine J.seq ?_
 refine J.region ?_
 refine O.p (Pu.assign rfl) rfl ?_
 refine O.p (Pu.assign rfl) rfl ?_
 refine O.p (Pu.assign rfl) rfl ?_
 refine O.nil ?_
 refine J.seq ?_
 refine J.seq ?_
 refine J.region ?_
 refine O.p (Pu.move rfl) rfl ?_
 refine O.p (Pu.lss rfl rfl) rfl ?_
 refine O.p (Pu.move rfl) rfl ?_
 refine by_bool (decide (n < 0)) (fun h1 => ?_) (fun h1 => ?_)
 ·
  have p2 := of_decide_eq_true h1
  refine O.gskip (t := 18) rfl rfl (no_bool (by rw [h1]; decide)) rfl rfl ?_
  refine O.gskip (t := 18) rfl rfl (no_bool (by rw [h1]; decide)) rfl rfl ?_
  refine O.p (Pu.pickT rfl h1 rfl) rfl ?_
  refine O.nil ?_
  refine J.condT rfl rfl ?_
  refine J.seq ?_
  refine J.region ?_
  refine O.p (Pu.assign rfl) rfl ?_
  refine O.p (Pu.assign rfl) rfl ?_
  refine O.p (Pu.assign rfl) rfl ?_
  refine O.nil ?_
  refine J.nilRow 3 1 ?_
  refine J.nilRow 3 1 ?_
  exact J.ret (Fin.ret (rs := [.tmp 6, .tmp 7, .tmp 8]) rfl [_, _, _] ⟨rfl, rfl, rfl, trivial⟩ [0, 1] (by decide) [row (Value.slice none 0 0) 3 1 (([] : List Int).map encZ), row (Value.slice none 0 0) 3 1 (([] : List Int).map encZ)] rfl ⟨Value.slice none 0 0, Value.slice none 0 0, (by obtain ⟨h1_, h2_, h3_⟩ : _ ∧ _ ∧ _ := Rp.lev_arg (by omega) (s := s) (n := n) (l := l); rw [h1_]; rfl), (by obtain ⟨h1_, h2_, h3_⟩ : _ ∧ _ ∧ _ := Rp.lev_arg (by omega) (s := s) (n := n) (l := l); first | (rw [h2_, h3_]; done) | (rw [h2_, h3_]; rfl))⟩)
 ·
  have p3 := of_decide_eq_false h1
  refine O.gq (t := 18) rfl rfl h1 rfl (Pu.qt (Pu.move rfl)) rfl ?_
  refine O.gq (t := 18) rfl rfl h1 rfl (Pu.qt (Pu.gtr rfl rfl)) rfl ?_
  refine O.p (Pu.pickF rfl h1 rfl) rfl ?_
  refine O.nil ?_
  refine J.cond rfl (fun h4 => ?_) (fun h4 => ?_)
  ·
   have p5 := of_decide_eq_true h4
   refine J.seq ?_
   refine J.region ?_
   refine O.p (Pu.assign rfl) rfl ?_
   refine O.p (Pu.assign rfl) rfl ?_
   refine O.p (Pu.assign rfl) rfl ?_
   refine O.nil ?_
   refine J.nilRow 3 1 ?_
   refine J.nilRow 3 1 ?_
   exact J.ret (Fin.ret (rs := [.tmp 6, .tmp 7, .tmp 8]) rfl [_, _, _] ⟨rfl, rfl, rfl, trivial⟩ [0, 1] (by decide) [row (Value.slice none 0 0) 3 1 (([] : List Int).map encZ), row (Value.slice none 0 0) 3 1 (([] : List Int).map encZ)] rfl ⟨Value.slice none 0 0, Value.slice none 0 0, (by obtain ⟨h1_, h2_, h3_⟩ : _ ∧ _ ∧ _ := Rp.lev_arg (by omega) (s := s) (n := n) (l := l); rw [h1_]; rfl), (by obtain ⟨h1_, h2_, h3_⟩ : _ ∧ _ ∧ _ := Rp.lev_arg (by omega) (s := s) (n := n) (l := l); first | (rw [h2_, h3_]; done) | (rw [h2_, h3_]; rfl))⟩)
  ·
   have p6 := of_decide_eq_false h4
   refine J.skip ?_
   refine J.seq ?_
   refine J.region ?_
   refine O.p (Pu.move rfl) rfl ?_
   refine O.l (Lo.call [lv] (by exact Tryd.call62) rfl (ld_Read lv l (by omega)) [] [] (by decide) rfl [] rfl (RoOk.ro 0 rfl [] rfl RoOk.nil)) rfl ?_
   rintro _ _ ⟨_, ⟨V8, rfl, rfl⟩, rfl⟩
   refine O.p (Pu.move rfl) rfl ?_
   refine O.p (Pu.extract rfl rfl) rfl ?_
   refine O.p (Pu.extract rfl rfl) rfl ?_
   refine O.p (Pu.extract rfl rfl) rfl ?_
   refine O.p (Pu.assign rfl) rfl ?_
   refine O.p (Pu.assign rfl) rfl ?_
   refine O.p (Pu.assign rfl) rfl ?_
   refine O.nil ?_
   refine J.seq ?_
   refine J.seq ?_
   refine J.region ?_
   refine O.p (Pu.move rfl) rfl ?_
   refine O.p (Pu.neq rfl rfl) rfl ?_
   refine O.nil ?_
   refine J.cond rfl (fun h10 => ?_) (fun h10 => ?_)
   ·
    have p11 := of_decide_eq_true h10
    refine J.seq ?_
    refine J.region ?_
    refine O.p (Pu.move rfl) rfl ?_
    refine O.p (Pu.assign rfl) rfl ?_
    refine O.p (Pu.assign rfl) rfl ?_
    refine O.p (Pu.assign rfl) rfl ?_
    refine O.nil ?_
    refine J.nilRow 3 1 ?_
    refine J.nilRow 3 1 ?_
    exact J.ret (Fin.ret (rs := [.tmp 6, .tmp 7, .tmp 8]) rfl [_, _, _] ⟨rfl, rfl, rfl, trivial⟩ [0, 1] (by decide) [row (Value.slice none 0 0) 3 1 (([] : List Int).map encZ), row (Value.slice none 0 0) 3 1 (([] : List Int).map encZ)] rfl ⟨Value.slice none 0 0, Value.slice none 0 0, (by obtain ⟨h1_, h2_, h3_⟩ : _ ∧ _ ∧ _ := Rp.lev_bad (by omega) ‹_› (s := s) (n := n) (l := l); rw [h1_]; rfl), (by obtain ⟨h1_, h2_, h3_⟩ : _ ∧ _ ∧ _ := Rp.lev_bad (by omega) ‹_› (s := s) (n := n) (l := l); first | (rw [h2_, h3_]; done) | (rw [h2_, h3_]; rfl))⟩)
   ·
    have p12 := of_decide_eq_false h10
    refine J.skip ?_
    refine J.seq ?_
    refine J.draw Tryd.mixed #[false, false, false, false, false, false] rfl ?_
    refine D.take (listed' := #[true, false, false, false, false, false]) 0 rfl (by kernel_rfl) (by kernel_rfl) (by kernel_rfl) rfl (Pu.move rfl) rfl ?_
    refine D.take (listed' := #[true, false, true, false, false, false]) 2 rfl (by kernel_rfl) (by kernel_rfl) (by kernel_rfl) rfl (Pu.move rfl) rfl ?_
    refine D.all 1 [3] (by kernel_rfl) ⟨?_, ?_, trivial⟩
    ·
     refine W.l (listed' := #[true, true, true, false, false, false]) rfl rfl (Lo.makeSliceN (z := (0 : Int)) (f := encZ) (m := n.toNat) (s := 1) (bytes := 8) (by exact Tryd.runUnderlying30) (fun w => run_typeInfo w (by exact (info3).1)) (by exact (info3).2.2.2) (by exact Tryd.sizeOf3) (by exact Tryd.zeroValue3) rfl rfl (by omega) (by omega) (by decide) rfl rfl (by decide) rfl) rfl ?_
     rintro V13 _ rfl
     refine D.take (listed' := #[true, true, true, false, true, false]) 4 rfl (by kernel_rfl) (by kernel_rfl) (by kernel_rfl) rfl (Pu.assign rfl) rfl ?_
     refine D.all 3 [] (by kernel_rfl) ⟨?_, trivial⟩
     refine W.l (listed' := #[true, true, true, true, true, false]) rfl rfl (Lo.makeSliceN (z := (0 : Int)) (f := encZ) (m := n.toNat) (s := 1) (bytes := 8) (by exact Tryd.runUnderlying30) (fun w => run_typeInfo w (by exact (info3).1)) (by exact (info3).2.2.2) (by exact Tryd.sizeOf3) (by exact Tryd.zeroValue3) rfl rfl (by omega) (by omega) (by decide) rfl rfl (by decide) rfl) rfl ?_
     rintro V14 _ rfl
     refine D.take (listed' := #[true, true, true, true, true, true]) 5 rfl (by kernel_rfl) (by kernel_rfl) (by kernel_rfl) rfl (Pu.assign rfl) rfl ?_
     refine D.done (by kernel_rfl) ?_
     refine J.seq ?_
     refine J.seq ?_
     refine J.region ?_
     refine O.p (Pu.move rfl) rfl ?_
     refine O.q (Qt.lenM Tryd.runUnderlying88 rfl (Src.row 2 rfl)) rfl ?_
     refine O.p (Pu.move rfl) rfl ?_
     refine O.nil ?_
     refine J.block ?_
     refine J.loop (X := Nat × List Int × List Int) (fun ξ => ξ.1 ≤ (Ld.read l).1.length ∧ ξ.2.1 = upI (Rp.allF s n) (List.replicate n.toNat 0) (Ld.read l).1 ξ.1 ∧ ξ.2.2 = upI (Rp.goodF s n) (List.replicate n.toNat 0) (Ld.read l).1 ξ.1 ∧ ξ.2.1.length = n.toNat ∧ ξ.2.2.length = n.toNat) (fun ξ => [(0, .int .i64 s), (1, .int .i64 n), (6, Value.slice none 0 0), (7, Value.slice none 0 0), (8, .int .i64 0), (12, V13), (13, V14), (35, V8), (36, .int .i64 (((Ld.read l).1).length : Int)), (37, .int .i64 (ξ.1 : Int))]) (fun ξ => [row V8 98 8 (((Ld.read l).1).map Ft.cells), row V13 3 1 (ξ.2.1.map encZ), row V14 3 1 (ξ.2.2.map encZ)]) (fun ξ => (Ld.read l).1.length - ξ.1) ⟨0, List.replicate n.toNat 0, List.replicate n.toNat 0⟩ (show 0 ≤ (Ld.read l).1.length ∧ (List.replicate n.toNat 0) = upI (Rp.allF s n) (List.replicate n.toNat 0) (Ld.read l).1 0 ∧ (List.replicate n.toNat 0) = upI (Rp.goodF s n) (List.replicate n.toNat 0) (Ld.read l).1 0 ∧ (List.replicate n.toNat 0).length = n.toNat ∧ (List.replicate n.toNat 0).length = n.toNat from ⟨by omega, rfl, rfl, by simp, by simp⟩) ⟨rfl, rfl, rfl, rfl, rfl, rfl, rfl, rfl, rfl, (congrArg (fun z => some (Value.int .i64 z)) (by first | rfl | omega : (0 : Int) = (0 : Int))), trivial⟩ [2, 1, 0] (by decide) rfl ?_
     rintro ⟨k, a, b⟩ hq15
     obtain ⟨hk, ha, hg, hla, hlb⟩ : k ≤ (Ld.read l).1.length ∧ a = upI (Rp.allF s n) (List.replicate n.toNat 0) (Ld.read l).1 k ∧ b = upI (Rp.goodF s n) (List.replicate n.toNat 0) (Ld.read l).1 k ∧ a.length = n.toNat ∧ b.length = n.toNat := hq15
     show J _ _ [(0, .int .i64 s), (1, .int .i64 n), (6, Value.slice none 0 0), (7, Value.slice none 0 0), (8, .int .i64 0), (12, V13), (13, V14), (35, V8), (36, .int .i64 (((Ld.read l).1).length : Int)), (37, .int .i64 (k : Int))] [row V8 98 8 (((Ld.read l).1).map Ft.cells), row V13 3 1 (a.map encZ), row V14 3 1 (b.map encZ)]
     refine J.seq ?_
     refine J.region ?_
     refine O.p (Pu.lss rfl rfl) rfl ?_
     refine O.nil ?_
     refine J.seq ?_
     refine J.cond rfl (fun h16 => ?_) (fun h16 => ?_)
     ·
      have p17 := of_decide_eq_true h16
      refine J.skip ?_
      refine J.seq ?_
      refine J.block ?_
      refine J.seq ?_
      refine J.region ?_
      obtain ⟨e18, he18⟩ : ∃ x_, ((Ld.read l).1)[k]? = some x_ := ⟨_, List.getElem?_eq_getElem (by first | omega | (have h_ := Ld.read_len l; omega))⟩
      refine O.q (Qt.idxM Tryd.runUnderlying88 Tryd.sizeOf98 rfl (Src.row 0 rfl) rfl (by first | omega | (have h_ := Ld.read_len l; omega)) (by first | omega | (have h_ := Ld.read_len l; omega))) rfl ?_
      refine O.q (Qt.ld rfl (Cel.eltM (Src.row 0 rfl) he18) (o := (voff V8 + k * 8)) (off := 0) (by omega) (Cut.agg [.int .i64 e18.s, .int .i64 e18.id, .int .i64 e18.state, .int .i64 e18.level, .int .i64 e18.code, .int .i64 e18.came, .int .i64 e18.began, .int .i64 e18.ended] Tryd.isAgg98 Tryd.sizeOf98 rfl rfl)) rfl ?_
      refine O.l (Lo.alloc [.int .i64 0, .int .i64 0, .int .i64 0, .int .i64 0, .int .i64 0, .int .i64 0, .int .i64 0, .int .i64 0] (by exact Tryd.zeroValue98) rfl) rfl ?_
      rintro _ _ ⟨g19, rfl, rfl⟩
      refine O.l0 (Lo.store 0 (vs := [.int .i64 e18.s, .int .i64 e18.id, .int .i64 e18.state, .int .i64 e18.level, .int .i64 e18.code, .int .i64 e18.came, .int .i64 e18.began, .int .i64 e18.ended]) [.int .i64 e18.s, .int .i64 e18.id, .int .i64 e18.state, .int .i64 e18.level, .int .i64 e18.code, .int .i64 e18.came, .int .i64 e18.began, .int .i64 e18.ended] rfl rfl rfl (by exact Tryd.sizeOf98) rfl rfl rfl rfl rfl) ?_
      rintro _ _ rfl
      refine O.nil ?_
      refine J.seq ?_
      refine J.seq ?_
      refine J.region ?_
      refine O.p (Pu.fieldAddr (off' := 0) Tryd.runUnderlying98 rfl Tryd.sizeOf3 rfl rfl rfl) rfl ?_
      refine O.q (Qt.ld rfl (Cel.var 0 rfl) (o := 0) (off := 0) rfl (Cut.one Tryd.isAgg3 rfl)) rfl ?_
      refine O.p (Pu.move rfl) rfl ?_
      refine O.p (Pu.neq rfl rfl) rfl ?_
      refine O.p (Pu.move rfl) rfl ?_
      refine by_bool (decide (e18.s ≠ s)) (fun h20 => ?_) (fun h20 => ?_)
      ·
       have p21 := of_decide_eq_true h20
       refine O.gskip (t := 45) rfl rfl (no_bool (by rw [h20]; decide)) rfl rfl ?_
       refine O.gskip (t := 45) rfl rfl (no_bool (by rw [h20]; decide)) rfl rfl ?_
       refine O.gskip (t := 45) rfl rfl (no_bool (by rw [h20]; decide)) rfl rfl ?_
       refine O.p (Pu.pickT rfl h20 rfl) rfl ?_
       refine O.p (Pu.move rfl) rfl ?_
       refine O.gskip (t := 50) rfl rfl (no_bool (by decide)) rfl rfl ?_
       refine O.gskip (t := 50) rfl rfl (no_bool (by decide)) rfl rfl ?_
       refine O.gskip (t := 50) rfl rfl (no_bool (by decide)) rfl rfl ?_
       refine O.gskip (t := 50) rfl rfl (no_bool (by decide)) rfl rfl ?_
       refine O.p (Pu.pickT rfl rfl rfl) rfl ?_
       refine O.nil ?_
       refine J.condT rfl rfl ?_
       refine J.exit _ rfl ?_
       refine J.region ?_
       refine O.p (Pu.add' rfl rfl (by first | omega | (have h_ := Ld.read_len l; omega))) rfl ?_
       refine O.p (Pu.move rfl) rfl ?_
       refine O.nil ?_
       exact J.lp ⟨k + 1, a, b⟩ (show (k + 1) ≤ (Ld.read l).1.length ∧ a = upI (Rp.allF s n) (List.replicate n.toNat 0) (Ld.read l).1 (k + 1) ∧ b = upI (Rp.goodF s n) (List.replicate n.toNat 0) (Ld.read l).1 (k + 1) ∧ a.length = n.toNat ∧ b.length = n.toNat from ⟨by omega, (by rw [upI_succ he18, ← ha]; first | exact (Rp.allF_no (by omega)).symm | exact (Rp.allF_yes (by omega) (by omega) (by omega) ‹_›).symm), (by rw [upI_succ he18, ← hg]; first | exact (Rp.goodF_no (by omega)).symm | exact (Rp.goodF_yes (by omega) (by omega) (by omega) (by omega) (by omega) ‹_›).symm), by first | exact hla | (rw [List.length_set]; exact hla), by first | exact hlb | (rw [List.length_set]; exact hlb)⟩) (show (Ld.read l).1.length - (k + 1) < (Ld.read l).1.length - k from (by first | omega | (have h_ := Ld.read_len l; omega))) ⟨rfl, rfl, rfl, rfl, rfl, rfl, rfl, rfl, rfl, (congrArg (fun z => some (Value.int .i64 z)) (by first | rfl | omega : ((k : Int) + 1 : Int) = ((k + 1) : Int))), trivial⟩ [1, 2, 3] (by decide) rfl
      ·
       have p22 := of_decide_eq_false h20
       refine O.gq (t := 45) rfl rfl h20 rfl (Pu.qt (Pu.fieldAddr (off' := 3) Tryd.runUnderlying98 rfl Tryd.sizeOf3 rfl rfl rfl)) rfl ?_
       refine O.gq (t := 45) rfl rfl h20 rfl (Qt.ld rfl (Cel.var 0 rfl) (o := 0) (off := 3) rfl (Cut.one Tryd.isAgg3 rfl)) rfl ?_
       refine O.gq (t := 45) rfl rfl h20 rfl (Pu.qt (Pu.lss rfl rfl)) rfl ?_
       refine O.p (Pu.pickF rfl h20 rfl) rfl ?_
       refine O.p (Pu.move rfl) rfl ?_
       refine by_bool (decide (e18.level < 0)) (fun h23 => ?_) (fun h23 => ?_)
       ·
        have p24 := of_decide_eq_true h23
        refine O.gskip (t := 50) rfl rfl (no_bool (by rw [h23]; decide)) rfl rfl ?_
        refine O.gskip (t := 50) rfl rfl (no_bool (by rw [h23]; decide)) rfl rfl ?_
        refine O.gskip (t := 50) rfl rfl (no_bool (by rw [h23]; decide)) rfl rfl ?_
        refine O.gskip (t := 50) rfl rfl (no_bool (by rw [h23]; decide)) rfl rfl ?_
        refine O.p (Pu.pickT rfl h23 rfl) rfl ?_
        refine O.nil ?_
        refine J.condT rfl rfl ?_
        refine J.exit _ rfl ?_
        refine J.region ?_
        refine O.p (Pu.add' rfl rfl (by first | omega | (have h_ := Ld.read_len l; omega))) rfl ?_
        refine O.p (Pu.move rfl) rfl ?_
        refine O.nil ?_
        exact J.lp ⟨k + 1, a, b⟩ (show (k + 1) ≤ (Ld.read l).1.length ∧ a = upI (Rp.allF s n) (List.replicate n.toNat 0) (Ld.read l).1 (k + 1) ∧ b = upI (Rp.goodF s n) (List.replicate n.toNat 0) (Ld.read l).1 (k + 1) ∧ a.length = n.toNat ∧ b.length = n.toNat from ⟨by omega, (by rw [upI_succ he18, ← ha]; first | exact (Rp.allF_no (by omega)).symm | exact (Rp.allF_yes (by omega) (by omega) (by omega) ‹_›).symm), (by rw [upI_succ he18, ← hg]; first | exact (Rp.goodF_no (by omega)).symm | exact (Rp.goodF_yes (by omega) (by omega) (by omega) (by omega) (by omega) ‹_›).symm), by first | exact hla | (rw [List.length_set]; exact hla), by first | exact hlb | (rw [List.length_set]; exact hlb)⟩) (show (Ld.read l).1.length - (k + 1) < (Ld.read l).1.length - k from (by first | omega | (have h_ := Ld.read_len l; omega))) ⟨rfl, rfl, rfl, rfl, rfl, rfl, rfl, rfl, rfl, (congrArg (fun z => some (Value.int .i64 z)) (by first | rfl | omega : ((k : Int) + 1 : Int) = ((k + 1) : Int))), trivial⟩ [1, 2, 3] (by decide) rfl
       ·
        have p25 := of_decide_eq_false h23
        refine O.gq (t := 50) rfl rfl h23 rfl (Pu.qt (Pu.fieldAddr (off' := 3) Tryd.runUnderlying98 rfl Tryd.sizeOf3 rfl rfl rfl)) rfl ?_
        refine O.gq (t := 50) rfl rfl h23 rfl (Qt.ld rfl (Cel.var 0 rfl) (o := 0) (off := 3) rfl (Cut.one Tryd.isAgg3 rfl)) rfl ?_
        refine O.gq (t := 50) rfl rfl h23 rfl (Pu.qt (Pu.move rfl)) rfl ?_
        refine O.gq (t := 50) rfl rfl h23 rfl (Pu.qt (Pu.geq rfl rfl)) rfl ?_
        refine O.p (Pu.pickF rfl h23 rfl) rfl ?_
        refine O.nil ?_
        refine J.cond rfl (fun h26 => ?_) (fun h26 => ?_)
        ·
         have p27 := of_decide_eq_true h26
         refine J.exit _ rfl ?_
         refine J.region ?_
         refine O.p (Pu.add' rfl rfl (by first | omega | (have h_ := Ld.read_len l; omega))) rfl ?_
         refine O.p (Pu.move rfl) rfl ?_
         refine O.nil ?_
         exact J.lp ⟨k + 1, a, b⟩ (show (k + 1) ≤ (Ld.read l).1.length ∧ a = upI (Rp.allF s n) (List.replicate n.toNat 0) (Ld.read l).1 (k + 1) ∧ b = upI (Rp.goodF s n) (List.replicate n.toNat 0) (Ld.read l).1 (k + 1) ∧ a.length = n.toNat ∧ b.length = n.toNat from ⟨by omega, (by rw [upI_succ he18, ← ha]; first | exact (Rp.allF_no (by omega)).symm | exact (Rp.allF_yes (by omega) (by omega) (by omega) ‹_›).symm), (by rw [upI_succ he18, ← hg]; first | exact (Rp.goodF_no (by omega)).symm | exact (Rp.goodF_yes (by omega) (by omega) (by omega) (by omega) (by omega) ‹_›).symm), by first | exact hla | (rw [List.length_set]; exact hla), by first | exact hlb | (rw [List.length_set]; exact hlb)⟩) (show (Ld.read l).1.length - (k + 1) < (Ld.read l).1.length - k from (by first | omega | (have h_ := Ld.read_len l; omega))) ⟨rfl, rfl, rfl, rfl, rfl, rfl, rfl, rfl, rfl, (congrArg (fun z => some (Value.int .i64 z)) (by first | rfl | omega : ((k : Int) + 1 : Int) = ((k + 1) : Int))), trivial⟩ [1, 2, 3] (by decide) rfl
        ·
         have p28 := of_decide_eq_false h26
         refine J.skip ?_
         refine J.seq ?_
         refine J.region ?_
         refine O.p (Pu.move rfl) rfl ?_
         refine O.p (Pu.fieldAddr (off' := 3) Tryd.runUnderlying98 rfl Tryd.sizeOf3 rfl rfl rfl) rfl ?_
         refine O.q (Qt.ld rfl (Cel.var 0 rfl) (o := 0) (off := 3) rfl (Cut.one Tryd.isAgg3 rfl)) rfl ?_
         obtain ⟨e29, he29⟩ : ∃ x_, a[(e18.level).toNat]? = some x_ := ⟨_, List.getElem?_eq_getElem (by first | omega | (have h_ := Ld.read_len l; omega))⟩
         refine O.q (Qt.idxM Tryd.runUnderlying30 Tryd.sizeOf3 rfl (Src.row 2 rfl) rfl (by first | omega | (have h_ := Ld.read_len l; omega)) (by first | omega | (have h_ := Ld.read_len l; omega))) rfl ?_
         refine O.q (Qt.ld rfl (Cel.eltM (Src.row 2 rfl) he29) (o := (voff V13 + ((e18.level).toNat) * 1)) (off := 0) (by omega) (Cut.one Tryd.isAgg3 rfl)) rfl ?_
         refine O.p (Pu.add rfl rfl) rfl ?_
         refine O.q (Qt.idxM Tryd.runUnderlying30 Tryd.sizeOf3 rfl (Src.row 2 rfl) rfl (by first | omega | (have h_ := Ld.read_len l; omega)) (by first | omega | (have h_ := Ld.read_len l; omega))) rfl ?_
         refine O.l0 (Lo.storeM 2 (j := (e18.level).toNat) (off := 0) (vs := [.int .i64 (IntKind.i64.wrap (e29 + 1))]) (e := [.int .i64 e29]) (IntKind.i64.wrap (e29 + 1)) rfl rfl rfl rfl (by omega) he29 rfl (by exact Tryd.sizeOf3) rfl rfl rfl rfl rfl) ?_
         rintro _ _ rfl
         have hs30 : (a.set (e18.level).toNat (IntKind.i64.wrap (e29 + 1)))[(e18.level).toNat]? = some (IntKind.i64.wrap (e29 + 1)) := List.getElem?_set_self (List.getElem?_eq_some_iff.1 he29).1
         refine O.nil ?_
         refine J.seq ?_
         refine J.region ?_
         refine O.p (Pu.fieldAddr (off' := 2) Tryd.runUnderlying98 rfl Tryd.sizeOf3 rfl rfl rfl) rfl ?_
         refine O.q (Qt.ld rfl (Cel.var 0 rfl) (o := 0) (off := 2) rfl (Cut.one Tryd.isAgg3 rfl)) rfl ?_
         refine O.p (Pu.eql rfl rfl) rfl ?_
         refine O.p (Pu.move rfl) rfl ?_
         refine by_bool (decide (e18.state = 4)) (fun h31 => ?_) (fun h31 => ?_)
         ·
          have p32 := of_decide_eq_true h31
          refine O.gq (t := 66) rfl rfl h31 rfl (Pu.qt (Pu.fieldAddr (off' := 4) Tryd.runUnderlying98 rfl Tryd.sizeOf3 rfl rfl rfl)) rfl ?_
          refine O.gq (t := 66) rfl rfl h31 rfl (Qt.ld rfl (Cel.var 0 rfl) (o := 0) (off := 4) rfl (Cut.one Tryd.isAgg3 rfl)) rfl ?_
          refine O.gq (t := 66) rfl rfl h31 rfl (Pu.qt (Pu.eql rfl rfl)) rfl ?_
          refine O.p (Pu.pickT rfl h31 rfl) rfl ?_
          refine O.nil ?_
          refine J.cond rfl (fun h33 => ?_) (fun h33 => ?_)
          ·
           have p34 := of_decide_eq_true h33
           refine J.region ?_
           refine O.p (Pu.move rfl) rfl ?_
           refine O.p (Pu.fieldAddr (off' := 3) Tryd.runUnderlying98 rfl Tryd.sizeOf3 rfl rfl rfl) rfl ?_
           refine O.q (Qt.ld rfl (Cel.var 0 rfl) (o := 0) (off := 3) rfl (Cut.one Tryd.isAgg3 rfl)) rfl ?_
           obtain ⟨e35, he35⟩ : ∃ x_, b[(e18.level).toNat]? = some x_ := ⟨_, List.getElem?_eq_getElem (by first | omega | (have h_ := Ld.read_len l; omega))⟩
           refine O.q (Qt.idxM Tryd.runUnderlying30 Tryd.sizeOf3 rfl (Src.row 3 rfl) rfl (by first | omega | (have h_ := Ld.read_len l; omega)) (by first | omega | (have h_ := Ld.read_len l; omega))) rfl ?_
           refine O.q (Qt.ld rfl (Cel.eltM (Src.row 3 rfl) he35) (o := (voff V14 + ((e18.level).toNat) * 1)) (off := 0) (by omega) (Cut.one Tryd.isAgg3 rfl)) rfl ?_
           refine O.p (Pu.add rfl rfl) rfl ?_
           refine O.q (Qt.idxM Tryd.runUnderlying30 Tryd.sizeOf3 rfl (Src.row 3 rfl) rfl (by first | omega | (have h_ := Ld.read_len l; omega)) (by first | omega | (have h_ := Ld.read_len l; omega))) rfl ?_
           refine O.l0 (Lo.storeM 3 (j := (e18.level).toNat) (off := 0) (vs := [.int .i64 (IntKind.i64.wrap (e35 + 1))]) (e := [.int .i64 e35]) (IntKind.i64.wrap (e35 + 1)) rfl rfl rfl rfl (by omega) he35 rfl (by exact Tryd.sizeOf3) rfl rfl rfl rfl rfl) ?_
           rintro _ _ rfl
           have hs36 : (b.set (e18.level).toNat (IntKind.i64.wrap (e35 + 1)))[(e18.level).toNat]? = some (IntKind.i64.wrap (e35 + 1)) := List.getElem?_set_self (List.getElem?_eq_some_iff.1 he35).1
           refine O.nil ?_
           refine J.blk ?_
           refine J.region ?_
           refine O.p (Pu.add' rfl rfl (by first | omega | (have h_ := Ld.read_len l; omega))) rfl ?_
           refine O.p (Pu.move rfl) rfl ?_
           refine O.nil ?_
           exact J.lp ⟨k + 1, a.set (e18.level).toNat (IntKind.i64.wrap (e29 + 1)), b.set (e18.level).toNat (IntKind.i64.wrap (e35 + 1))⟩ (show (k + 1) ≤ (Ld.read l).1.length ∧ (a.set (e18.level).toNat (IntKind.i64.wrap (e29 + 1))) = upI (Rp.allF s n) (List.replicate n.toNat 0) (Ld.read l).1 (k + 1) ∧ (b.set (e18.level).toNat (IntKind.i64.wrap (e35 + 1))) = upI (Rp.goodF s n) (List.replicate n.toNat 0) (Ld.read l).1 (k + 1) ∧ (a.set (e18.level).toNat (IntKind.i64.wrap (e29 + 1))).length = n.toNat ∧ (b.set (e18.level).toNat (IntKind.i64.wrap (e35 + 1))).length = n.toNat from ⟨by omega, (by rw [upI_succ he18, ← ha]; first | exact (Rp.allF_no (by omega)).symm | exact (Rp.allF_yes (by omega) (by omega) (by omega) ‹_›).symm), (by rw [upI_succ he18, ← hg]; first | exact (Rp.goodF_no (by omega)).symm | exact (Rp.goodF_yes (by omega) (by omega) (by omega) (by omega) (by omega) ‹_›).symm), by first | exact hla | (rw [List.length_set]; exact hla), by first | exact hlb | (rw [List.length_set]; exact hlb)⟩) (show (Ld.read l).1.length - (k + 1) < (Ld.read l).1.length - k from (by first | omega | (have h_ := Ld.read_len l; omega))) ⟨rfl, rfl, rfl, rfl, rfl, rfl, rfl, rfl, rfl, (congrArg (fun z => some (Value.int .i64 z)) (by first | rfl | omega : ((k : Int) + 1 : Int) = ((k + 1) : Int))), trivial⟩ [1, 2, 3] (by decide) rfl
          ·
           have p37 := of_decide_eq_false h33
           refine J.skip ?_
           refine J.blk ?_
           refine J.region ?_
           refine O.p (Pu.add' rfl rfl (by first | omega | (have h_ := Ld.read_len l; omega))) rfl ?_
           refine O.p (Pu.move rfl) rfl ?_
           refine O.nil ?_
           exact J.lp ⟨k + 1, a.set (e18.level).toNat (IntKind.i64.wrap (e29 + 1)), b⟩ (show (k + 1) ≤ (Ld.read l).1.length ∧ (a.set (e18.level).toNat (IntKind.i64.wrap (e29 + 1))) = upI (Rp.allF s n) (List.replicate n.toNat 0) (Ld.read l).1 (k + 1) ∧ b = upI (Rp.goodF s n) (List.replicate n.toNat 0) (Ld.read l).1 (k + 1) ∧ (a.set (e18.level).toNat (IntKind.i64.wrap (e29 + 1))).length = n.toNat ∧ b.length = n.toNat from ⟨by omega, (by rw [upI_succ he18, ← ha]; first | exact (Rp.allF_no (by omega)).symm | exact (Rp.allF_yes (by omega) (by omega) (by omega) ‹_›).symm), (by rw [upI_succ he18, ← hg]; first | exact (Rp.goodF_no (by omega)).symm | exact (Rp.goodF_yes (by omega) (by omega) (by omega) (by omega) (by omega) ‹_›).symm), by first | exact hla | (rw [List.length_set]; exact hla), by first | exact hlb | (rw [List.length_set]; exact hlb)⟩) (show (Ld.read l).1.length - (k + 1) < (Ld.read l).1.length - k from (by first | omega | (have h_ := Ld.read_len l; omega))) ⟨rfl, rfl, rfl, rfl, rfl, rfl, rfl, rfl, rfl, (congrArg (fun z => some (Value.int .i64 z)) (by first | rfl | omega : ((k : Int) + 1 : Int) = ((k + 1) : Int))), trivial⟩ [1, 2, 3] (by decide) rfl
         ·
          have p38 := of_decide_eq_false h31
          refine O.gskip (t := 66) rfl rfl (no_bool (by rw [h31]; decide)) rfl rfl ?_
          refine O.gskip (t := 66) rfl rfl (no_bool (by rw [h31]; decide)) rfl rfl ?_
          refine O.gskip (t := 66) rfl rfl (no_bool (by rw [h31]; decide)) rfl rfl ?_
          refine O.p (Pu.pickF rfl h31 rfl) rfl ?_
          refine O.nil ?_
          refine J.condF rfl rfl ?_
          refine J.skip ?_
          refine J.blk ?_
          refine J.region ?_
          refine O.p (Pu.add' rfl rfl (by first | omega | (have h_ := Ld.read_len l; omega))) rfl ?_
          refine O.p (Pu.move rfl) rfl ?_
          refine O.nil ?_
          exact J.lp ⟨k + 1, a.set (e18.level).toNat (IntKind.i64.wrap (e29 + 1)), b⟩ (show (k + 1) ≤ (Ld.read l).1.length ∧ (a.set (e18.level).toNat (IntKind.i64.wrap (e29 + 1))) = upI (Rp.allF s n) (List.replicate n.toNat 0) (Ld.read l).1 (k + 1) ∧ b = upI (Rp.goodF s n) (List.replicate n.toNat 0) (Ld.read l).1 (k + 1) ∧ (a.set (e18.level).toNat (IntKind.i64.wrap (e29 + 1))).length = n.toNat ∧ b.length = n.toNat from ⟨by omega, (by rw [upI_succ he18, ← ha]; first | exact (Rp.allF_no (by omega)).symm | exact (Rp.allF_yes (by omega) (by omega) (by omega) ‹_›).symm), (by rw [upI_succ he18, ← hg]; first | exact (Rp.goodF_no (by omega)).symm | exact (Rp.goodF_yes (by omega) (by omega) (by omega) (by omega) (by omega) ‹_›).symm), by first | exact hla | (rw [List.length_set]; exact hla), by first | exact hlb | (rw [List.length_set]; exact hlb)⟩) (show (Ld.read l).1.length - (k + 1) < (Ld.read l).1.length - k from (by first | omega | (have h_ := Ld.read_len l; omega))) ⟨rfl, rfl, rfl, rfl, rfl, rfl, rfl, rfl, rfl, (congrArg (fun z => some (Value.int .i64 z)) (by first | rfl | omega : ((k : Int) + 1 : Int) = ((k + 1) : Int))), trivial⟩ [1, 2, 3] (by decide) rfl
     ·
      have p39 := of_decide_eq_false h16
      refine J.exit _ rfl ?_
      refine J.seq ?_
      refine J.region ?_
      refine O.p (Pu.move rfl) rfl ?_
      refine O.p (Pu.move rfl) rfl ?_
      refine O.p (Pu.assign rfl) rfl ?_
      refine O.p (Pu.assign rfl) rfl ?_
      refine O.p (Pu.assign rfl) rfl ?_
      refine O.nil ?_
      exact J.ret (Fin.ret (rs := [.tmp 6, .tmp 7, .tmp 8]) rfl [_, _, _] ⟨rfl, rfl, rfl, trivial⟩ [1, 2] (by decide) [row V13 3 1 (a.map encZ), row V14 3 1 (b.map encZ)] rfl ⟨V13, V14, (by obtain ⟨h1_, h2_, h3_⟩ : _ ∧ _ ∧ _ := Rp.lev_yes (by omega) (Decidable.not_not.1 ‹_›) (s := s) (n := n) (l := l); rw [h1_]; rfl), (by obtain ⟨h1_, h2_, h3_⟩ : _ ∧ _ ∧ _ := Rp.lev_yes (by omega) (Decidable.not_not.1 ‹_›) (s := s) (n := n) (l := l); rw [h2_, h3_, Rp.alls, Rp.goods, show (Ld.read l).1.length = k from by omega, ← ha, ← hg])⟩)
    ·
     refine W.l (listed' := #[true, false, true, true, false, false]) rfl rfl (Lo.makeSliceN (z := (0 : Int)) (f := encZ) (m := n.toNat) (s := 1) (bytes := 8) (by exact Tryd.runUnderlying30) (fun w => run_typeInfo w (by exact (info3).1)) (by exact (info3).2.2.2) (by exact Tryd.sizeOf3) (by exact Tryd.zeroValue3) rfl rfl (by omega) (by omega) (by decide) rfl rfl (by decide) rfl) rfl ?_
     rintro V40 _ rfl
     refine D.all 1 [] (by kernel_rfl) ⟨?_, trivial⟩
     refine W.l (listed' := #[true, true, true, true, false, false]) rfl rfl (Lo.makeSliceN (z := (0 : Int)) (f := encZ) (m := n.toNat) (s := 1) (bytes := 8) (by exact Tryd.runUnderlying30) (fun w => run_typeInfo w (by exact (info3).1)) (by exact (info3).2.2.2) (by exact Tryd.sizeOf3) (by exact Tryd.zeroValue3) rfl rfl (by omega) (by omega) (by decide) rfl rfl (by decide) rfl) rfl ?_
     rintro V41 _ rfl
     refine D.take (listed' := #[true, true, true, true, true, false]) 4 rfl (by kernel_rfl) (by kernel_rfl) (by kernel_rfl) rfl (Pu.assign rfl) rfl ?_
     refine D.take (listed' := #[true, true, true, true, true, true]) 5 rfl (by kernel_rfl) (by kernel_rfl) (by kernel_rfl) rfl (Pu.assign rfl) rfl ?_
     refine D.done (by kernel_rfl) ?_
     refine J.seq ?_
     refine J.seq ?_
     refine J.region ?_
     refine O.p (Pu.move rfl) rfl ?_
     refine O.q (Qt.lenM Tryd.runUnderlying88 rfl (Src.row 2 rfl)) rfl ?_
     refine O.p (Pu.move rfl) rfl ?_
     refine O.nil ?_
     refine J.block ?_
     refine J.loop (X := Nat × List Int × List Int) (fun ξ => ξ.1 ≤ (Ld.read l).1.length ∧ ξ.2.1 = upI (Rp.allF s n) (List.replicate n.toNat 0) (Ld.read l).1 ξ.1 ∧ ξ.2.2 = upI (Rp.goodF s n) (List.replicate n.toNat 0) (Ld.read l).1 ξ.1 ∧ ξ.2.1.length = n.toNat ∧ ξ.2.2.length = n.toNat) (fun ξ => [(0, .int .i64 s), (1, .int .i64 n), (6, Value.slice none 0 0), (7, Value.slice none 0 0), (8, .int .i64 0), (12, V41), (13, V40), (35, V8), (36, .int .i64 (((Ld.read l).1).length : Int)), (37, .int .i64 (ξ.1 : Int))]) (fun ξ => [row V8 98 8 (((Ld.read l).1).map Ft.cells), row V41 3 1 (ξ.2.1.map encZ), row V40 3 1 (ξ.2.2.map encZ)]) (fun ξ => (Ld.read l).1.length - ξ.1) ⟨0, List.replicate n.toNat 0, List.replicate n.toNat 0⟩ (show 0 ≤ (Ld.read l).1.length ∧ (List.replicate n.toNat 0) = upI (Rp.allF s n) (List.replicate n.toNat 0) (Ld.read l).1 0 ∧ (List.replicate n.toNat 0) = upI (Rp.goodF s n) (List.replicate n.toNat 0) (Ld.read l).1 0 ∧ (List.replicate n.toNat 0).length = n.toNat ∧ (List.replicate n.toNat 0).length = n.toNat from ⟨by omega, rfl, rfl, by simp, by simp⟩) ⟨rfl, rfl, rfl, rfl, rfl, rfl, rfl, rfl, rfl, (congrArg (fun z => some (Value.int .i64 z)) (by first | rfl | omega : (0 : Int) = (0 : Int))), trivial⟩ [2, 0, 1] (by decide) rfl ?_
     rintro ⟨k, a, b⟩ hq42
     obtain ⟨hk, ha, hg, hla, hlb⟩ : k ≤ (Ld.read l).1.length ∧ a = upI (Rp.allF s n) (List.replicate n.toNat 0) (Ld.read l).1 k ∧ b = upI (Rp.goodF s n) (List.replicate n.toNat 0) (Ld.read l).1 k ∧ a.length = n.toNat ∧ b.length = n.toNat := hq42
     show J _ _ [(0, .int .i64 s), (1, .int .i64 n), (6, Value.slice none 0 0), (7, Value.slice none 0 0), (8, .int .i64 0), (12, V41), (13, V40), (35, V8), (36, .int .i64 (((Ld.read l).1).length : Int)), (37, .int .i64 (k : Int))] [row V8 98 8 (((Ld.read l).1).map Ft.cells), row V41 3 1 (a.map encZ), row V40 3 1 (b.map encZ)]
     refine J.seq ?_
     refine J.region ?_
     refine O.p (Pu.lss rfl rfl) rfl ?_
     refine O.nil ?_
     refine J.seq ?_
     refine J.cond rfl (fun h43 => ?_) (fun h43 => ?_)
     ·
      have p44 := of_decide_eq_true h43
      refine J.skip ?_
      refine J.seq ?_
      refine J.block ?_
      refine J.seq ?_
      refine J.region ?_
      obtain ⟨e45, he45⟩ : ∃ x_, ((Ld.read l).1)[k]? = some x_ := ⟨_, List.getElem?_eq_getElem (by first | omega | (have h_ := Ld.read_len l; omega))⟩
      refine O.q (Qt.idxM Tryd.runUnderlying88 Tryd.sizeOf98 rfl (Src.row 0 rfl) rfl (by first | omega | (have h_ := Ld.read_len l; omega)) (by first | omega | (have h_ := Ld.read_len l; omega))) rfl ?_
      refine O.q (Qt.ld rfl (Cel.eltM (Src.row 0 rfl) he45) (o := (voff V8 + k * 8)) (off := 0) (by omega) (Cut.agg [.int .i64 e45.s, .int .i64 e45.id, .int .i64 e45.state, .int .i64 e45.level, .int .i64 e45.code, .int .i64 e45.came, .int .i64 e45.began, .int .i64 e45.ended] Tryd.isAgg98 Tryd.sizeOf98 rfl rfl)) rfl ?_
      refine O.l (Lo.alloc [.int .i64 0, .int .i64 0, .int .i64 0, .int .i64 0, .int .i64 0, .int .i64 0, .int .i64 0, .int .i64 0] (by exact Tryd.zeroValue98) rfl) rfl ?_
      rintro _ _ ⟨g46, rfl, rfl⟩
      refine O.l0 (Lo.store 0 (vs := [.int .i64 e45.s, .int .i64 e45.id, .int .i64 e45.state, .int .i64 e45.level, .int .i64 e45.code, .int .i64 e45.came, .int .i64 e45.began, .int .i64 e45.ended]) [.int .i64 e45.s, .int .i64 e45.id, .int .i64 e45.state, .int .i64 e45.level, .int .i64 e45.code, .int .i64 e45.came, .int .i64 e45.began, .int .i64 e45.ended] rfl rfl rfl (by exact Tryd.sizeOf98) rfl rfl rfl rfl rfl) ?_
      rintro _ _ rfl
      refine O.nil ?_
      refine J.seq ?_
      refine J.seq ?_
      refine J.region ?_
      refine O.p (Pu.fieldAddr (off' := 0) Tryd.runUnderlying98 rfl Tryd.sizeOf3 rfl rfl rfl) rfl ?_
      refine O.q (Qt.ld rfl (Cel.var 0 rfl) (o := 0) (off := 0) rfl (Cut.one Tryd.isAgg3 rfl)) rfl ?_
      refine O.p (Pu.move rfl) rfl ?_
      refine O.p (Pu.neq rfl rfl) rfl ?_
      refine O.p (Pu.move rfl) rfl ?_
      refine by_bool (decide (e45.s ≠ s)) (fun h47 => ?_) (fun h47 => ?_)
      ·
       have p48 := of_decide_eq_true h47
       refine O.gskip (t := 45) rfl rfl (no_bool (by rw [h47]; decide)) rfl rfl ?_
       refine O.gskip (t := 45) rfl rfl (no_bool (by rw [h47]; decide)) rfl rfl ?_
       refine O.gskip (t := 45) rfl rfl (no_bool (by rw [h47]; decide)) rfl rfl ?_
       refine O.p (Pu.pickT rfl h47 rfl) rfl ?_
       refine O.p (Pu.move rfl) rfl ?_
       refine O.gskip (t := 50) rfl rfl (no_bool (by decide)) rfl rfl ?_
       refine O.gskip (t := 50) rfl rfl (no_bool (by decide)) rfl rfl ?_
       refine O.gskip (t := 50) rfl rfl (no_bool (by decide)) rfl rfl ?_
       refine O.gskip (t := 50) rfl rfl (no_bool (by decide)) rfl rfl ?_
       refine O.p (Pu.pickT rfl rfl rfl) rfl ?_
       refine O.nil ?_
       refine J.condT rfl rfl ?_
       refine J.exit _ rfl ?_
       refine J.region ?_
       refine O.p (Pu.add' rfl rfl (by first | omega | (have h_ := Ld.read_len l; omega))) rfl ?_
       refine O.p (Pu.move rfl) rfl ?_
       refine O.nil ?_
       exact J.lp ⟨k + 1, a, b⟩ (show (k + 1) ≤ (Ld.read l).1.length ∧ a = upI (Rp.allF s n) (List.replicate n.toNat 0) (Ld.read l).1 (k + 1) ∧ b = upI (Rp.goodF s n) (List.replicate n.toNat 0) (Ld.read l).1 (k + 1) ∧ a.length = n.toNat ∧ b.length = n.toNat from ⟨by omega, (by rw [upI_succ he45, ← ha]; first | exact (Rp.allF_no (by omega)).symm | exact (Rp.allF_yes (by omega) (by omega) (by omega) ‹_›).symm), (by rw [upI_succ he45, ← hg]; first | exact (Rp.goodF_no (by omega)).symm | exact (Rp.goodF_yes (by omega) (by omega) (by omega) (by omega) (by omega) ‹_›).symm), by first | exact hla | (rw [List.length_set]; exact hla), by first | exact hlb | (rw [List.length_set]; exact hlb)⟩) (show (Ld.read l).1.length - (k + 1) < (Ld.read l).1.length - k from (by first | omega | (have h_ := Ld.read_len l; omega))) ⟨rfl, rfl, rfl, rfl, rfl, rfl, rfl, rfl, rfl, (congrArg (fun z => some (Value.int .i64 z)) (by first | rfl | omega : ((k : Int) + 1 : Int) = ((k + 1) : Int))), trivial⟩ [1, 2, 3] (by decide) rfl
      ·
       have p49 := of_decide_eq_false h47
       refine O.gq (t := 45) rfl rfl h47 rfl (Pu.qt (Pu.fieldAddr (off' := 3) Tryd.runUnderlying98 rfl Tryd.sizeOf3 rfl rfl rfl)) rfl ?_
       refine O.gq (t := 45) rfl rfl h47 rfl (Qt.ld rfl (Cel.var 0 rfl) (o := 0) (off := 3) rfl (Cut.one Tryd.isAgg3 rfl)) rfl ?_
       refine O.gq (t := 45) rfl rfl h47 rfl (Pu.qt (Pu.lss rfl rfl)) rfl ?_
       refine O.p (Pu.pickF rfl h47 rfl) rfl ?_
       refine O.p (Pu.move rfl) rfl ?_
       refine by_bool (decide (e45.level < 0)) (fun h50 => ?_) (fun h50 => ?_)
       ·
        have p51 := of_decide_eq_true h50
        refine O.gskip (t := 50) rfl rfl (no_bool (by rw [h50]; decide)) rfl rfl ?_
        refine O.gskip (t := 50) rfl rfl (no_bool (by rw [h50]; decide)) rfl rfl ?_
        refine O.gskip (t := 50) rfl rfl (no_bool (by rw [h50]; decide)) rfl rfl ?_
        refine O.gskip (t := 50) rfl rfl (no_bool (by rw [h50]; decide)) rfl rfl ?_
        refine O.p (Pu.pickT rfl h50 rfl) rfl ?_
        refine O.nil ?_
        refine J.condT rfl rfl ?_
        refine J.exit _ rfl ?_
        refine J.region ?_
        refine O.p (Pu.add' rfl rfl (by first | omega | (have h_ := Ld.read_len l; omega))) rfl ?_
        refine O.p (Pu.move rfl) rfl ?_
        refine O.nil ?_
        exact J.lp ⟨k + 1, a, b⟩ (show (k + 1) ≤ (Ld.read l).1.length ∧ a = upI (Rp.allF s n) (List.replicate n.toNat 0) (Ld.read l).1 (k + 1) ∧ b = upI (Rp.goodF s n) (List.replicate n.toNat 0) (Ld.read l).1 (k + 1) ∧ a.length = n.toNat ∧ b.length = n.toNat from ⟨by omega, (by rw [upI_succ he45, ← ha]; first | exact (Rp.allF_no (by omega)).symm | exact (Rp.allF_yes (by omega) (by omega) (by omega) ‹_›).symm), (by rw [upI_succ he45, ← hg]; first | exact (Rp.goodF_no (by omega)).symm | exact (Rp.goodF_yes (by omega) (by omega) (by omega) (by omega) (by omega) ‹_›).symm), by first | exact hla | (rw [List.length_set]; exact hla), by first | exact hlb | (rw [List.length_set]; exact hlb)⟩) (show (Ld.read l).1.length - (k + 1) < (Ld.read l).1.length - k from (by first | omega | (have h_ := Ld.read_len l; omega))) ⟨rfl, rfl, rfl, rfl, rfl, rfl, rfl, rfl, rfl, (congrArg (fun z => some (Value.int .i64 z)) (by first | rfl | omega : ((k : Int) + 1 : Int) = ((k + 1) : Int))), trivial⟩ [1, 2, 3] (by decide) rfl
       ·
        have p52 := of_decide_eq_false h50
        refine O.gq (t := 50) rfl rfl h50 rfl (Pu.qt (Pu.fieldAddr (off' := 3) Tryd.runUnderlying98 rfl Tryd.sizeOf3 rfl rfl rfl)) rfl ?_
        refine O.gq (t := 50) rfl rfl h50 rfl (Qt.ld rfl (Cel.var 0 rfl) (o := 0) (off := 3) rfl (Cut.one Tryd.isAgg3 rfl)) rfl ?_
        refine O.gq (t := 50) rfl rfl h50 rfl (Pu.qt (Pu.move rfl)) rfl ?_
        refine O.gq (t := 50) rfl rfl h50 rfl (Pu.qt (Pu.geq rfl rfl)) rfl ?_
        refine O.p (Pu.pickF rfl h50 rfl) rfl ?_
        refine O.nil ?_
        refine J.cond rfl (fun h53 => ?_) (fun h53 => ?_)
        ·
         have p54 := of_decide_eq_true h53
         refine J.exit _ rfl ?_
         refine J.region ?_
         refine O.p (Pu.add' rfl rfl (by first | omega | (have h_ := Ld.read_len l; omega))) rfl ?_
         refine O.p (Pu.move rfl) rfl ?_
         refine O.nil ?_
         exact J.lp ⟨k + 1, a, b⟩ (show (k + 1) ≤ (Ld.read l).1.length ∧ a = upI (Rp.allF s n) (List.replicate n.toNat 0) (Ld.read l).1 (k + 1) ∧ b = upI (Rp.goodF s n) (List.replicate n.toNat 0) (Ld.read l).1 (k + 1) ∧ a.length = n.toNat ∧ b.length = n.toNat from ⟨by omega, (by rw [upI_succ he45, ← ha]; first | exact (Rp.allF_no (by omega)).symm | exact (Rp.allF_yes (by omega) (by omega) (by omega) ‹_›).symm), (by rw [upI_succ he45, ← hg]; first | exact (Rp.goodF_no (by omega)).symm | exact (Rp.goodF_yes (by omega) (by omega) (by omega) (by omega) (by omega) ‹_›).symm), by first | exact hla | (rw [List.length_set]; exact hla), by first | exact hlb | (rw [List.length_set]; exact hlb)⟩) (show (Ld.read l).1.length - (k + 1) < (Ld.read l).1.length - k from (by first | omega | (have h_ := Ld.read_len l; omega))) ⟨rfl, rfl, rfl, rfl, rfl, rfl, rfl, rfl, rfl, (congrArg (fun z => some (Value.int .i64 z)) (by first | rfl | omega : ((k : Int) + 1 : Int) = ((k + 1) : Int))), trivial⟩ [1, 2, 3] (by decide) rfl
        ·
         have p55 := of_decide_eq_false h53
         refine J.skip ?_
         refine J.seq ?_
         refine J.region ?_
         refine O.p (Pu.move rfl) rfl ?_
         refine O.p (Pu.fieldAddr (off' := 3) Tryd.runUnderlying98 rfl Tryd.sizeOf3 rfl rfl rfl) rfl ?_
         refine O.q (Qt.ld rfl (Cel.var 0 rfl) (o := 0) (off := 3) rfl (Cut.one Tryd.isAgg3 rfl)) rfl ?_
         obtain ⟨e56, he56⟩ : ∃ x_, a[(e45.level).toNat]? = some x_ := ⟨_, List.getElem?_eq_getElem (by first | omega | (have h_ := Ld.read_len l; omega))⟩
         refine O.q (Qt.idxM Tryd.runUnderlying30 Tryd.sizeOf3 rfl (Src.row 2 rfl) rfl (by first | omega | (have h_ := Ld.read_len l; omega)) (by first | omega | (have h_ := Ld.read_len l; omega))) rfl ?_
         refine O.q (Qt.ld rfl (Cel.eltM (Src.row 2 rfl) he56) (o := (voff V41 + ((e45.level).toNat) * 1)) (off := 0) (by omega) (Cut.one Tryd.isAgg3 rfl)) rfl ?_
         refine O.p (Pu.add rfl rfl) rfl ?_
         refine O.q (Qt.idxM Tryd.runUnderlying30 Tryd.sizeOf3 rfl (Src.row 2 rfl) rfl (by first | omega | (have h_ := Ld.read_len l; omega)) (by first | omega | (have h_ := Ld.read_len l; omega))) rfl ?_
         refine O.l0 (Lo.storeM 2 (j := (e45.level).toNat) (off := 0) (vs := [.int .i64 (IntKind.i64.wrap (e56 + 1))]) (e := [.int .i64 e56]) (IntKind.i64.wrap (e56 + 1)) rfl rfl rfl rfl (by omega) he56 rfl (by exact Tryd.sizeOf3) rfl rfl rfl rfl rfl) ?_
         rintro _ _ rfl
         have hs57 : (a.set (e45.level).toNat (IntKind.i64.wrap (e56 + 1)))[(e45.level).toNat]? = some (IntKind.i64.wrap (e56 + 1)) := List.getElem?_set_self (List.getElem?_eq_some_iff.1 he56).1
         refine O.nil ?_
         refine J.seq ?_
         refine J.region ?_
         refine O.p (Pu.fieldAddr (off' := 2) Tryd.runUnderlying98 rfl Tryd.sizeOf3 rfl rfl rfl) rfl ?_
         refine O.q (Qt.ld rfl (Cel.var 0 rfl) (o := 0) (off := 2) rfl (Cut.one Tryd.isAgg3 rfl)) rfl ?_
         refine O.p (Pu.eql rfl rfl) rfl ?_
         refine O.p (Pu.move rfl) rfl ?_
         refine by_bool (decide (e45.state = 4)) (fun h58 => ?_) (fun h58 => ?_)
         ·
          have p59 := of_decide_eq_true h58
          refine O.gq (t := 66) rfl rfl h58 rfl (Pu.qt (Pu.fieldAddr (off' := 4) Tryd.runUnderlying98 rfl Tryd.sizeOf3 rfl rfl rfl)) rfl ?_
          refine O.gq (t := 66) rfl rfl h58 rfl (Qt.ld rfl (Cel.var 0 rfl) (o := 0) (off := 4) rfl (Cut.one Tryd.isAgg3 rfl)) rfl ?_
          refine O.gq (t := 66) rfl rfl h58 rfl (Pu.qt (Pu.eql rfl rfl)) rfl ?_
          refine O.p (Pu.pickT rfl h58 rfl) rfl ?_
          refine O.nil ?_
          refine J.cond rfl (fun h60 => ?_) (fun h60 => ?_)
          ·
           have p61 := of_decide_eq_true h60
           refine J.region ?_
           refine O.p (Pu.move rfl) rfl ?_
           refine O.p (Pu.fieldAddr (off' := 3) Tryd.runUnderlying98 rfl Tryd.sizeOf3 rfl rfl rfl) rfl ?_
           refine O.q (Qt.ld rfl (Cel.var 0 rfl) (o := 0) (off := 3) rfl (Cut.one Tryd.isAgg3 rfl)) rfl ?_
           obtain ⟨e62, he62⟩ : ∃ x_, b[(e45.level).toNat]? = some x_ := ⟨_, List.getElem?_eq_getElem (by first | omega | (have h_ := Ld.read_len l; omega))⟩
           refine O.q (Qt.idxM Tryd.runUnderlying30 Tryd.sizeOf3 rfl (Src.row 3 rfl) rfl (by first | omega | (have h_ := Ld.read_len l; omega)) (by first | omega | (have h_ := Ld.read_len l; omega))) rfl ?_
           refine O.q (Qt.ld rfl (Cel.eltM (Src.row 3 rfl) he62) (o := (voff V40 + ((e45.level).toNat) * 1)) (off := 0) (by omega) (Cut.one Tryd.isAgg3 rfl)) rfl ?_
           refine O.p (Pu.add rfl rfl) rfl ?_
           refine O.q (Qt.idxM Tryd.runUnderlying30 Tryd.sizeOf3 rfl (Src.row 3 rfl) rfl (by first | omega | (have h_ := Ld.read_len l; omega)) (by first | omega | (have h_ := Ld.read_len l; omega))) rfl ?_
           refine O.l0 (Lo.storeM 3 (j := (e45.level).toNat) (off := 0) (vs := [.int .i64 (IntKind.i64.wrap (e62 + 1))]) (e := [.int .i64 e62]) (IntKind.i64.wrap (e62 + 1)) rfl rfl rfl rfl (by omega) he62 rfl (by exact Tryd.sizeOf3) rfl rfl rfl rfl rfl) ?_
           rintro _ _ rfl
           have hs63 : (b.set (e45.level).toNat (IntKind.i64.wrap (e62 + 1)))[(e45.level).toNat]? = some (IntKind.i64.wrap (e62 + 1)) := List.getElem?_set_self (List.getElem?_eq_some_iff.1 he62).1
           refine O.nil ?_
           refine J.blk ?_
           refine J.region ?_
           refine O.p (Pu.add' rfl rfl (by first | omega | (have h_ := Ld.read_len l; omega))) rfl ?_
           refine O.p (Pu.move rfl) rfl ?_
           refine O.nil ?_
           exact J.lp ⟨k + 1, a.set (e45.level).toNat (IntKind.i64.wrap (e56 + 1)), b.set (e45.level).toNat (IntKind.i64.wrap (e62 + 1))⟩ (show (k + 1) ≤ (Ld.read l).1.length ∧ (a.set (e45.level).toNat (IntKind.i64.wrap (e56 + 1))) = upI (Rp.allF s n) (List.replicate n.toNat 0) (Ld.read l).1 (k + 1) ∧ (b.set (e45.level).toNat (IntKind.i64.wrap (e62 + 1))) = upI (Rp.goodF s n) (List.replicate n.toNat 0) (Ld.read l).1 (k + 1) ∧ (a.set (e45.level).toNat (IntKind.i64.wrap (e56 + 1))).length = n.toNat ∧ (b.set (e45.level).toNat (IntKind.i64.wrap (e62 + 1))).length = n.toNat from ⟨by omega, (by rw [upI_succ he45, ← ha]; first | exact (Rp.allF_no (by omega)).symm | exact (Rp.allF_yes (by omega) (by omega) (by omega) ‹_›).symm), (by rw [upI_succ he45, ← hg]; first | exact (Rp.goodF_no (by omega)).symm | exact (Rp.goodF_yes (by omega) (by omega) (by omega) (by omega) (by omega) ‹_›).symm), by first | exact hla | (rw [List.length_set]; exact hla), by first | exact hlb | (rw [List.length_set]; exact hlb)⟩) (show (Ld.read l).1.length - (k + 1) < (Ld.read l).1.length - k from (by first | omega | (have h_ := Ld.read_len l; omega))) ⟨rfl, rfl, rfl, rfl, rfl, rfl, rfl, rfl, rfl, (congrArg (fun z => some (Value.int .i64 z)) (by first | rfl | omega : ((k : Int) + 1 : Int) = ((k + 1) : Int))), trivial⟩ [1, 2, 3] (by decide) rfl
          ·
           have p64 := of_decide_eq_false h60
           refine J.skip ?_
           refine J.blk ?_
           refine J.region ?_
           refine O.p (Pu.add' rfl rfl (by first | omega | (have h_ := Ld.read_len l; omega))) rfl ?_
           refine O.p (Pu.move rfl) rfl ?_
           refine O.nil ?_
           exact J.lp ⟨k + 1, a.set (e45.level).toNat (IntKind.i64.wrap (e56 + 1)), b⟩ (show (k + 1) ≤ (Ld.read l).1.length ∧ (a.set (e45.level).toNat (IntKind.i64.wrap (e56 + 1))) = upI (Rp.allF s n) (List.replicate n.toNat 0) (Ld.read l).1 (k + 1) ∧ b = upI (Rp.goodF s n) (List.replicate n.toNat 0) (Ld.read l).1 (k + 1) ∧ (a.set (e45.level).toNat (IntKind.i64.wrap (e56 + 1))).length = n.toNat ∧ b.length = n.toNat from ⟨by omega, (by rw [upI_succ he45, ← ha]; first | exact (Rp.allF_no (by omega)).symm | exact (Rp.allF_yes (by omega) (by omega) (by omega) ‹_›).symm), (by rw [upI_succ he45, ← hg]; first | exact (Rp.goodF_no (by omega)).symm | exact (Rp.goodF_yes (by omega) (by omega) (by omega) (by omega) (by omega) ‹_›).symm), by first | exact hla | (rw [List.length_set]; exact hla), by first | exact hlb | (rw [List.length_set]; exact hlb)⟩) (show (Ld.read l).1.length - (k + 1) < (Ld.read l).1.length - k from (by first | omega | (have h_ := Ld.read_len l; omega))) ⟨rfl, rfl, rfl, rfl, rfl, rfl, rfl, rfl, rfl, (congrArg (fun z => some (Value.int .i64 z)) (by first | rfl | omega : ((k : Int) + 1 : Int) = ((k + 1) : Int))), trivial⟩ [1, 2, 3] (by decide) rfl
         ·
          have p65 := of_decide_eq_false h58
          refine O.gskip (t := 66) rfl rfl (no_bool (by rw [h58]; decide)) rfl rfl ?_
          refine O.gskip (t := 66) rfl rfl (no_bool (by rw [h58]; decide)) rfl rfl ?_
          refine O.gskip (t := 66) rfl rfl (no_bool (by rw [h58]; decide)) rfl rfl ?_
          refine O.p (Pu.pickF rfl h58 rfl) rfl ?_
          refine O.nil ?_
          refine J.condF rfl rfl ?_
          refine J.skip ?_
          refine J.blk ?_
          refine J.region ?_
          refine O.p (Pu.add' rfl rfl (by first | omega | (have h_ := Ld.read_len l; omega))) rfl ?_
          refine O.p (Pu.move rfl) rfl ?_
          refine O.nil ?_
          exact J.lp ⟨k + 1, a.set (e45.level).toNat (IntKind.i64.wrap (e56 + 1)), b⟩ (show (k + 1) ≤ (Ld.read l).1.length ∧ (a.set (e45.level).toNat (IntKind.i64.wrap (e56 + 1))) = upI (Rp.allF s n) (List.replicate n.toNat 0) (Ld.read l).1 (k + 1) ∧ b = upI (Rp.goodF s n) (List.replicate n.toNat 0) (Ld.read l).1 (k + 1) ∧ (a.set (e45.level).toNat (IntKind.i64.wrap (e56 + 1))).length = n.toNat ∧ b.length = n.toNat from ⟨by omega, (by rw [upI_succ he45, ← ha]; first | exact (Rp.allF_no (by omega)).symm | exact (Rp.allF_yes (by omega) (by omega) (by omega) ‹_›).symm), (by rw [upI_succ he45, ← hg]; first | exact (Rp.goodF_no (by omega)).symm | exact (Rp.goodF_yes (by omega) (by omega) (by omega) (by omega) (by omega) ‹_›).symm), by first | exact hla | (rw [List.length_set]; exact hla), by first | exact hlb | (rw [List.length_set]; exact hlb)⟩) (show (Ld.read l).1.length - (k + 1) < (Ld.read l).1.length - k from (by first | omega | (have h_ := Ld.read_len l; omega))) ⟨rfl, rfl, rfl, rfl, rfl, rfl, rfl, rfl, rfl, (congrArg (fun z => some (Value.int .i64 z)) (by first | rfl | omega : ((k : Int) + 1 : Int) = ((k + 1) : Int))), trivial⟩ [1, 2, 3] (by decide) rfl
     ·
      have p66 := of_decide_eq_false h43
      refine J.exit _ rfl ?_
      refine J.seq ?_
      refine J.region ?_
      refine O.p (Pu.move rfl) rfl ?_
      refine O.p (Pu.move rfl) rfl ?_
      refine O.p (Pu.assign rfl) rfl ?_
      refine O.p (Pu.assign rfl) rfl ?_
      refine O.p (Pu.assign rfl) rfl ?_
      refine O.nil ?_
      exact J.ret (Fin.ret (rs := [.tmp 6, .tmp 7, .tmp 8]) rfl [_, _, _] ⟨rfl, rfl, rfl, trivial⟩ [1, 2] (by decide) [row V41 3 1 (a.map encZ), row V40 3 1 (b.map encZ)] rfl ⟨V41, V40, (by obtain ⟨h1_, h2_, h3_⟩ : _ ∧ _ ∧ _ := Rp.lev_yes (by omega) (Decidable.not_not.1 ‹_›) (s := s) (n := n) (l := l); rw [h1_]; rfl), (by obtain ⟨h1_, h2_, h3_⟩ : _ ∧ _ ∧ _ := Rp.lev_yes (by omega) (Decidable.not_not.1 ‹_›) (s := s) (n := n) (l := l); rw [h2_, h3_, Rp.alls, Rp.goods, show (Ld.read l).1.length = k from by omega, ← ha, ← hg])⟩)

set_option maxRecDepth 100000 in
set_option maxHeartbeats 2000000 in
theorem r45_Levels (s n : Int) (lv : Value) (l : List Ev) (hl : l.length ≤ 80000) : Tri Tryd.prog 32 #[.int .i64 s, .int .i64 n, lv] [rd lv 7 (l.map Ev.cells)] [] (fun v L' => ∃ V W, v = .tuple #[V, W, .int .i64 (Rp.levE n l)] ∧ L' = [row V 3 1 ((Rp.levA s n l).map encZ), row W 3 1 ((Rp.levG s n l).map encZ)]) := by
 refine Tri.enter (args := [.int .i64 s, .int .i64 n, lv]) (body := _) 90 Tryd.func32 rfl Tryd.ntmps32 rfl ?_
 intro w0
 refine J.seq ?_
 refine J.region ?_
 refine O.p (Pu.assign rfl) rfl ?_
 refine O.p (Pu.assign rfl) rfl ?_
 refine O.p (Pu.assign rfl) rfl ?_
 refine O.nil ?_
 refine J.seq ?_
 refine J.seq ?_
 refine J.region ?_
 refine O.p (Pu.move rfl) rfl ?_
 refine O.p (Pu.lss rfl rfl) rfl ?_
 refine O.p (Pu.move rfl) rfl ?_
 refine by_bool (decide (n < 0)) (fun h1 => ?_) (fun h1 => ?_)
 ·
  have p2 := of_decide_eq_true h1
  refine O.gskip (t := 18) rfl rfl (no_bool (by rw [h1]; decide)) rfl rfl ?_
  refine O.gskip (t := 18) rfl rfl (no_bool (by rw [h1]; decide)) rfl rfl ?_
  refine O.p (Pu.pickT rfl h1 rfl) rfl ?_
  refine O.nil ?_
  refine J.condT rfl rfl ?_
  refine J.seq ?_
  refine J.region ?_
  refine O.p (Pu.assign rfl) rfl ?_
  refine O.p (Pu.assign rfl) rfl ?_
  refine O.p (Pu.assign rfl) rfl ?_
  refine O.nil ?_
  refine J.nilRow 3 1 ?_
  refine J.nilRow 3 1 ?_
  exact J.ret (Fin.ret (rs := [.tmp 6, .tmp 7, .tmp 8]) rfl [_, _, _] ⟨rfl, rfl, rfl, trivial⟩ [0, 1] (by decide) [row (Value.slice none 0 0) 3 1 (([] : List Int).map encZ), row (Value.slice none 0 0) 3 1 (([] : List Int).map encZ)] rfl ⟨Value.slice none 0 0, Value.slice none 0 0, (by obtain ⟨h1_, h2_, h3_⟩ : _ ∧ _ ∧ _ := Rp.lev_arg (by omega) (s := s) (n := n) (l := l); rw [h1_]; rfl), (by obtain ⟨h1_, h2_, h3_⟩ : _ ∧ _ ∧ _ := Rp.lev_arg (by omega) (s := s) (n := n) (l := l); first | (rw [h2_, h3_]; done) | (rw [h2_, h3_]; rfl))⟩)
 ·
  have p3 := of_decide_eq_false h1
  refine O.gq (t := 18) rfl rfl h1 rfl (Pu.qt (Pu.move rfl)) rfl ?_
  refine O.gq (t := 18) rfl rfl h1 rfl (Pu.qt (Pu.gtr rfl rfl)) rfl ?_
  refine O.p (Pu.pickF rfl h1 rfl) rfl ?_
  refine O.nil ?_
  refine J.cond rfl (fun h4 => ?_) (fun h4 => ?_)
  ·
   have p5 := of_decide_eq_true h4
   refine J.seq ?_
   refine J.region ?_
   refine O.p (Pu.assign rfl) rfl ?_
   refine O.p (Pu.assign rfl) rfl ?_
   refine O.p (Pu.assign rfl) rfl ?_
   refine O.nil ?_
   refine J.nilRow 3 1 ?_
   refine J.nilRow 3 1 ?_
   exact J.ret (Fin.ret (rs := [.tmp 6, .tmp 7, .tmp 8]) rfl [_, _, _] ⟨rfl, rfl, rfl, trivial⟩ [0, 1] (by decide) [row (Value.slice none 0 0) 3 1 (([] : List Int).map encZ), row (Value.slice none 0 0) 3 1 (([] : List Int).map encZ)] rfl ⟨Value.slice none 0 0, Value.slice none 0 0, (by obtain ⟨h1_, h2_, h3_⟩ : _ ∧ _ ∧ _ := Rp.lev_arg (by omega) (s := s) (n := n) (l := l); rw [h1_]; rfl), (by obtain ⟨h1_, h2_, h3_⟩ : _ ∧ _ ∧ _ := Rp.lev_arg (by omega) (s := s) (n := n) (l := l); first | (rw [h2_, h3_]; done) | (rw [h2_, h3_]; rfl))⟩)
  ·
   have p6 := of_decide_eq_false h4
   refine J.skip ?_
   refine J.seq ?_
   refine J.region ?_
   refine O.p (Pu.move rfl) rfl ?_
   refine O.l (Lo.call [lv] (by exact Tryd.call66) rfl (r41_Read lv l (by omega)) [] [] (by decide) rfl [] rfl (RoOk.ro 0 rfl [] rfl RoOk.nil)) rfl ?_
   rintro _ _ ⟨_, ⟨V7, rfl, rfl⟩, rfl⟩
   refine O.p (Pu.move rfl) rfl ?_
   refine O.p (Pu.extract rfl rfl) rfl ?_
   refine O.p (Pu.extract rfl rfl) rfl ?_
   refine O.p (Pu.extract rfl rfl) rfl ?_
   refine O.p (Pu.assign rfl) rfl ?_
   refine O.p (Pu.assign rfl) rfl ?_
   refine O.p (Pu.assign rfl) rfl ?_
   refine O.nil ?_
   refine J.seq ?_
   refine J.seq ?_
   refine J.region ?_
   refine O.p (Pu.move rfl) rfl ?_
   refine O.p (Pu.neq rfl rfl) rfl ?_
   refine O.nil ?_
   refine J.cond rfl (fun h9 => ?_) (fun h9 => ?_)
   ·
    have p10 := of_decide_eq_true h9
    refine J.seq ?_
    refine J.region ?_
    refine O.p (Pu.move rfl) rfl ?_
    refine O.p (Pu.assign rfl) rfl ?_
    refine O.p (Pu.assign rfl) rfl ?_
    refine O.p (Pu.assign rfl) rfl ?_
    refine O.nil ?_
    refine J.nilRow 3 1 ?_
    refine J.nilRow 3 1 ?_
    exact J.ret (Fin.ret (rs := [.tmp 6, .tmp 7, .tmp 8]) rfl [_, _, _] ⟨rfl, rfl, rfl, trivial⟩ [0, 1] (by decide) [row (Value.slice none 0 0) 3 1 (([] : List Int).map encZ), row (Value.slice none 0 0) 3 1 (([] : List Int).map encZ)] rfl ⟨Value.slice none 0 0, Value.slice none 0 0, (by obtain ⟨h1_, h2_, h3_⟩ : _ ∧ _ ∧ _ := Rp.lev_bad (by omega) ‹_› (s := s) (n := n) (l := l); rw [h1_]; rfl), (by obtain ⟨h1_, h2_, h3_⟩ : _ ∧ _ ∧ _ := Rp.lev_bad (by omega) ‹_› (s := s) (n := n) (l := l); first | (rw [h2_, h3_]; done) | (rw [h2_, h3_]; rfl))⟩)
   ·
    have p11 := of_decide_eq_false h9
    refine J.skip ?_
    refine J.seq ?_
    refine J.draw Tryd.mixed #[false, false, false, false, false, false] rfl ?_
    refine D.take (listed' := #[true, false, false, false, false, false]) 0 rfl (by kernel_rfl) (by kernel_rfl) (by kernel_rfl) rfl (Pu.move rfl) rfl ?_
    refine D.take (listed' := #[true, false, true, false, false, false]) 2 rfl (by kernel_rfl) (by kernel_rfl) (by kernel_rfl) rfl (Pu.move rfl) rfl ?_
    refine D.all 1 [3] (by kernel_rfl) ⟨?_, ?_, trivial⟩
    ·
     refine W.l (listed' := #[true, true, true, false, false, false]) rfl rfl (Lo.makeSliceN (z := (0 : Int)) (f := encZ) (m := n.toNat) (s := 1) (bytes := 8) (by exact Tryd.runUnderlying30) (fun w => run_typeInfo w (by exact (info3).1)) (by exact (info3).2.2.2) (by exact Tryd.sizeOf3) (by exact Tryd.zeroValue3) rfl rfl (by omega) (by omega) (by decide) rfl rfl (by decide) rfl) rfl ?_
     rintro V12 _ rfl
     refine D.take (listed' := #[true, true, true, false, true, false]) 4 rfl (by kernel_rfl) (by kernel_rfl) (by kernel_rfl) rfl (Pu.assign rfl) rfl ?_
     refine D.all 3 [] (by kernel_rfl) ⟨?_, trivial⟩
     refine W.l (listed' := #[true, true, true, true, true, false]) rfl rfl (Lo.makeSliceN (z := (0 : Int)) (f := encZ) (m := n.toNat) (s := 1) (bytes := 8) (by exact Tryd.runUnderlying30) (fun w => run_typeInfo w (by exact (info3).1)) (by exact (info3).2.2.2) (by exact Tryd.sizeOf3) (by exact Tryd.zeroValue3) rfl rfl (by omega) (by omega) (by decide) rfl rfl (by decide) rfl) rfl ?_
     rintro V13 _ rfl
     refine D.take (listed' := #[true, true, true, true, true, true]) 5 rfl (by kernel_rfl) (by kernel_rfl) (by kernel_rfl) rfl (Pu.assign rfl) rfl ?_
     refine D.done (by kernel_rfl) ?_
     refine J.seq ?_
     refine J.seq ?_
     refine J.region ?_
     refine O.p (Pu.assign rfl) rfl ?_
     refine O.nil ?_
     refine J.block ?_
     refine J.loop (X := Nat × List Int × List Int) (fun ξ => ξ.1 ≤ (Ld.read l).1.length ∧ ξ.2.1 = upI (Rp.allF s n) (List.replicate n.toNat 0) (Ld.read l).1 ξ.1 ∧ ξ.2.2 = upI (Rp.goodF s n) (List.replicate n.toNat 0) (Ld.read l).1 ξ.1 ∧ ξ.2.1.length = n.toNat ∧ ξ.2.2.length = n.toNat) (fun ξ => [(0, .int .i64 s), (1, .int .i64 n), (6, Value.slice none 0 0), (7, Value.slice none 0 0), (8, .int .i64 0), (9, V7), (12, V12), (13, V13), (14, .int .i64 (ξ.1 : Int))]) (fun ξ => [row V7 98 8 (((Ld.read l).1).map Ft.cells), row V12 3 1 (ξ.2.1.map encZ), row V13 3 1 (ξ.2.2.map encZ)]) (fun ξ => (Ld.read l).1.length - ξ.1) ⟨0, List.replicate n.toNat 0, List.replicate n.toNat 0⟩ (show 0 ≤ (Ld.read l).1.length ∧ (List.replicate n.toNat 0) = upI (Rp.allF s n) (List.replicate n.toNat 0) (Ld.read l).1 0 ∧ (List.replicate n.toNat 0) = upI (Rp.goodF s n) (List.replicate n.toNat 0) (Ld.read l).1 0 ∧ (List.replicate n.toNat 0).length = n.toNat ∧ (List.replicate n.toNat 0).length = n.toNat from ⟨by omega, rfl, rfl, by simp, by simp⟩) ⟨rfl, rfl, rfl, rfl, rfl, rfl, rfl, rfl, (congrArg (fun z => some (Value.int .i64 z)) (by first | rfl | omega : (0 : Int) = (0 : Int))), trivial⟩ [2, 1, 0] (by decide) rfl ?_
     rintro ⟨k, a, b⟩ hq14
     obtain ⟨hk, ha, hg, hla, hlb⟩ : k ≤ (Ld.read l).1.length ∧ a = upI (Rp.allF s n) (List.replicate n.toNat 0) (Ld.read l).1 k ∧ b = upI (Rp.goodF s n) (List.replicate n.toNat 0) (Ld.read l).1 k ∧ a.length = n.toNat ∧ b.length = n.toNat := hq14
     show J _ _ [(0, .int .i64 s), (1, .int .i64 n), (6, Value.slice none 0 0), (7, Value.slice none 0 0), (8, .int .i64 0), (9, V7), (12, V12), (13, V13), (14, .int .i64 (k : Int))] [row V7 98 8 (((Ld.read l).1).map Ft.cells), row V12 3 1 (a.map encZ), row V13 3 1 (b.map encZ)]
     refine J.seq ?_
     refine J.seq ?_
     refine J.region ?_
     refine O.p (Pu.move rfl) rfl ?_
     refine O.p (Pu.move rfl) rfl ?_
     refine O.q (Qt.lenM Tryd.runUnderlying88 rfl (Src.row 0 rfl)) rfl ?_
     refine O.p (Pu.lss rfl rfl) rfl ?_
     refine O.nil ?_
     refine J.cond rfl (fun h15 => ?_) (fun h15 => ?_)
     ·
      have p16 := of_decide_eq_true h15
      refine J.skip ?_
      refine J.seq ?_
      refine J.block ?_
      refine J.seq ?_
      refine J.region ?_
      refine O.p (Pu.move rfl) rfl ?_
      refine O.p (Pu.move rfl) rfl ?_
      obtain ⟨e17, he17⟩ : ∃ x_, ((Ld.read l).1)[k]? = some x_ := ⟨_, List.getElem?_eq_getElem (by first | omega | (have h_ := Ld.read_len l; omega))⟩
      refine O.q (Qt.idxM Tryd.runUnderlying88 Tryd.sizeOf98 rfl (Src.row 0 rfl) rfl (by first | omega | (have h_ := Ld.read_len l; omega)) (by first | omega | (have h_ := Ld.read_len l; omega))) rfl ?_
      refine O.q (Qt.ld rfl (Cel.eltM (Src.row 0 rfl) he17) (o := (voff V7 + k * 8)) (off := 0) (by omega) (Cut.agg [.int .i64 e17.s, .int .i64 e17.id, .int .i64 e17.state, .int .i64 e17.level, .int .i64 e17.code, .int .i64 e17.came, .int .i64 e17.began, .int .i64 e17.ended] Tryd.isAgg98 Tryd.sizeOf98 rfl rfl)) rfl ?_
      refine O.l (Lo.alloc [.int .i64 0, .int .i64 0, .int .i64 0, .int .i64 0, .int .i64 0, .int .i64 0, .int .i64 0, .int .i64 0] (by exact Tryd.zeroValue98) rfl) rfl ?_
      rintro _ _ ⟨g18, rfl, rfl⟩
      refine O.l0 (Lo.store 0 (vs := [.int .i64 e17.s, .int .i64 e17.id, .int .i64 e17.state, .int .i64 e17.level, .int .i64 e17.code, .int .i64 e17.came, .int .i64 e17.began, .int .i64 e17.ended]) [.int .i64 e17.s, .int .i64 e17.id, .int .i64 e17.state, .int .i64 e17.level, .int .i64 e17.code, .int .i64 e17.came, .int .i64 e17.began, .int .i64 e17.ended] rfl rfl rfl (by exact Tryd.sizeOf98) rfl rfl rfl rfl rfl) ?_
      rintro _ _ rfl
      refine O.nil ?_
      refine J.seq ?_
      refine J.seq ?_
      refine J.region ?_
      refine O.p (Pu.fieldAddr (off' := 0) Tryd.runUnderlying98 rfl Tryd.sizeOf3 rfl rfl rfl) rfl ?_
      refine O.q (Qt.ld rfl (Cel.var 0 rfl) (o := 0) (off := 0) rfl (Cut.one Tryd.isAgg3 rfl)) rfl ?_
      refine O.p (Pu.move rfl) rfl ?_
      refine O.p (Pu.neq rfl rfl) rfl ?_
      refine O.p (Pu.move rfl) rfl ?_
      refine by_bool (decide (e17.s ≠ s)) (fun h19 => ?_) (fun h19 => ?_)
      ·
       have p20 := of_decide_eq_true h19
       refine O.gskip (t := 49) rfl rfl (no_bool (by rw [h19]; decide)) rfl rfl ?_
       refine O.gskip (t := 49) rfl rfl (no_bool (by rw [h19]; decide)) rfl rfl ?_
       refine O.gskip (t := 49) rfl rfl (no_bool (by rw [h19]; decide)) rfl rfl ?_
       refine O.p (Pu.pickT rfl h19 rfl) rfl ?_
       refine O.p (Pu.move rfl) rfl ?_
       refine O.gskip (t := 54) rfl rfl (no_bool (by decide)) rfl rfl ?_
       refine O.gskip (t := 54) rfl rfl (no_bool (by decide)) rfl rfl ?_
       refine O.gskip (t := 54) rfl rfl (no_bool (by decide)) rfl rfl ?_
       refine O.gskip (t := 54) rfl rfl (no_bool (by decide)) rfl rfl ?_
       refine O.p (Pu.pickT rfl rfl rfl) rfl ?_
       refine O.nil ?_
       refine J.condT rfl rfl ?_
       refine J.exit _ rfl ?_
       refine J.region ?_
       refine O.p (Pu.move rfl) rfl ?_
       refine O.p (Pu.add' rfl rfl (by first | omega | (have h_ := Ld.read_len l; omega))) rfl ?_
       refine O.p (Pu.assign rfl) rfl ?_
       refine O.nil ?_
       exact J.lp ⟨k + 1, a, b⟩ (show (k + 1) ≤ (Ld.read l).1.length ∧ a = upI (Rp.allF s n) (List.replicate n.toNat 0) (Ld.read l).1 (k + 1) ∧ b = upI (Rp.goodF s n) (List.replicate n.toNat 0) (Ld.read l).1 (k + 1) ∧ a.length = n.toNat ∧ b.length = n.toNat from ⟨by omega, (by rw [upI_succ he17, ← ha]; first | exact (Rp.allF_no (by omega)).symm | exact (Rp.allF_yes (by omega) (by omega) (by omega) ‹_›).symm), (by rw [upI_succ he17, ← hg]; first | exact (Rp.goodF_no (by omega)).symm | exact (Rp.goodF_yes (by omega) (by omega) (by omega) (by omega) (by omega) ‹_›).symm), by first | exact hla | (rw [List.length_set]; exact hla), by first | exact hlb | (rw [List.length_set]; exact hlb)⟩) (show (Ld.read l).1.length - (k + 1) < (Ld.read l).1.length - k from (by first | omega | (have h_ := Ld.read_len l; omega))) ⟨rfl, rfl, rfl, rfl, rfl, rfl, rfl, rfl, (congrArg (fun z => some (Value.int .i64 z)) (by first | rfl | omega : ((k : Int) + 1 : Int) = ((k + 1) : Int))), trivial⟩ [1, 2, 3] (by decide) rfl
      ·
       have p21 := of_decide_eq_false h19
       refine O.gq (t := 49) rfl rfl h19 rfl (Pu.qt (Pu.fieldAddr (off' := 3) Tryd.runUnderlying98 rfl Tryd.sizeOf3 rfl rfl rfl)) rfl ?_
       refine O.gq (t := 49) rfl rfl h19 rfl (Qt.ld rfl (Cel.var 0 rfl) (o := 0) (off := 3) rfl (Cut.one Tryd.isAgg3 rfl)) rfl ?_
       refine O.gq (t := 49) rfl rfl h19 rfl (Pu.qt (Pu.lss rfl rfl)) rfl ?_
       refine O.p (Pu.pickF rfl h19 rfl) rfl ?_
       refine O.p (Pu.move rfl) rfl ?_
       refine by_bool (decide (e17.level < 0)) (fun h22 => ?_) (fun h22 => ?_)
       ·
        have p23 := of_decide_eq_true h22
        refine O.gskip (t := 54) rfl rfl (no_bool (by rw [h22]; decide)) rfl rfl ?_
        refine O.gskip (t := 54) rfl rfl (no_bool (by rw [h22]; decide)) rfl rfl ?_
        refine O.gskip (t := 54) rfl rfl (no_bool (by rw [h22]; decide)) rfl rfl ?_
        refine O.gskip (t := 54) rfl rfl (no_bool (by rw [h22]; decide)) rfl rfl ?_
        refine O.p (Pu.pickT rfl h22 rfl) rfl ?_
        refine O.nil ?_
        refine J.condT rfl rfl ?_
        refine J.exit _ rfl ?_
        refine J.region ?_
        refine O.p (Pu.move rfl) rfl ?_
        refine O.p (Pu.add' rfl rfl (by first | omega | (have h_ := Ld.read_len l; omega))) rfl ?_
        refine O.p (Pu.assign rfl) rfl ?_
        refine O.nil ?_
        exact J.lp ⟨k + 1, a, b⟩ (show (k + 1) ≤ (Ld.read l).1.length ∧ a = upI (Rp.allF s n) (List.replicate n.toNat 0) (Ld.read l).1 (k + 1) ∧ b = upI (Rp.goodF s n) (List.replicate n.toNat 0) (Ld.read l).1 (k + 1) ∧ a.length = n.toNat ∧ b.length = n.toNat from ⟨by omega, (by rw [upI_succ he17, ← ha]; first | exact (Rp.allF_no (by omega)).symm | exact (Rp.allF_yes (by omega) (by omega) (by omega) ‹_›).symm), (by rw [upI_succ he17, ← hg]; first | exact (Rp.goodF_no (by omega)).symm | exact (Rp.goodF_yes (by omega) (by omega) (by omega) (by omega) (by omega) ‹_›).symm), by first | exact hla | (rw [List.length_set]; exact hla), by first | exact hlb | (rw [List.length_set]; exact hlb)⟩) (show (Ld.read l).1.length - (k + 1) < (Ld.read l).1.length - k from (by first | omega | (have h_ := Ld.read_len l; omega))) ⟨rfl, rfl, rfl, rfl, rfl, rfl, rfl, rfl, (congrArg (fun z => some (Value.int .i64 z)) (by first | rfl | omega : ((k : Int) + 1 : Int) = ((k + 1) : Int))), trivial⟩ [1, 2, 3] (by decide) rfl
       ·
        have p24 := of_decide_eq_false h22
        refine O.gq (t := 54) rfl rfl h22 rfl (Pu.qt (Pu.fieldAddr (off' := 3) Tryd.runUnderlying98 rfl Tryd.sizeOf3 rfl rfl rfl)) rfl ?_
        refine O.gq (t := 54) rfl rfl h22 rfl (Qt.ld rfl (Cel.var 0 rfl) (o := 0) (off := 3) rfl (Cut.one Tryd.isAgg3 rfl)) rfl ?_
        refine O.gq (t := 54) rfl rfl h22 rfl (Pu.qt (Pu.move rfl)) rfl ?_
        refine O.gq (t := 54) rfl rfl h22 rfl (Pu.qt (Pu.geq rfl rfl)) rfl ?_
        refine O.p (Pu.pickF rfl h22 rfl) rfl ?_
        refine O.nil ?_
        refine J.cond rfl (fun h25 => ?_) (fun h25 => ?_)
        ·
         have p26 := of_decide_eq_true h25
         refine J.exit _ rfl ?_
         refine J.region ?_
         refine O.p (Pu.move rfl) rfl ?_
         refine O.p (Pu.add' rfl rfl (by first | omega | (have h_ := Ld.read_len l; omega))) rfl ?_
         refine O.p (Pu.assign rfl) rfl ?_
         refine O.nil ?_
         exact J.lp ⟨k + 1, a, b⟩ (show (k + 1) ≤ (Ld.read l).1.length ∧ a = upI (Rp.allF s n) (List.replicate n.toNat 0) (Ld.read l).1 (k + 1) ∧ b = upI (Rp.goodF s n) (List.replicate n.toNat 0) (Ld.read l).1 (k + 1) ∧ a.length = n.toNat ∧ b.length = n.toNat from ⟨by omega, (by rw [upI_succ he17, ← ha]; first | exact (Rp.allF_no (by omega)).symm | exact (Rp.allF_yes (by omega) (by omega) (by omega) ‹_›).symm), (by rw [upI_succ he17, ← hg]; first | exact (Rp.goodF_no (by omega)).symm | exact (Rp.goodF_yes (by omega) (by omega) (by omega) (by omega) (by omega) ‹_›).symm), by first | exact hla | (rw [List.length_set]; exact hla), by first | exact hlb | (rw [List.length_set]; exact hlb)⟩) (show (Ld.read l).1.length - (k + 1) < (Ld.read l).1.length - k from (by first | omega | (have h_ := Ld.read_len l; omega))) ⟨rfl, rfl, rfl, rfl, rfl, rfl, rfl, rfl, (congrArg (fun z => some (Value.int .i64 z)) (by first | rfl | omega : ((k : Int) + 1 : Int) = ((k + 1) : Int))), trivial⟩ [1, 2, 3] (by decide) rfl
        ·
         have p27 := of_decide_eq_false h25
         refine J.skip ?_
         refine J.seq ?_
         refine J.drawTail 10 Tryd.mixed (by kernel_rfl) ?_
         refine S.p (Pu.move rfl) rfl ?_
         refine S.p (Pu.fieldAddr (off' := 3) Tryd.runUnderlying98 rfl Tryd.sizeOf3 rfl rfl rfl) rfl ?_
         refine S.q (Qt.ld rfl (Cel.var 0 rfl) (o := 0) (off := 3) rfl (Cut.one Tryd.isAgg3 rfl)) rfl ?_
         refine S.p (Pu.move rfl) rfl ?_
         refine S.p (Pu.fieldAddr (off' := 3) Tryd.runUnderlying98 rfl Tryd.sizeOf3 rfl rfl rfl) rfl ?_
         refine S.q (Qt.ld rfl (Cel.var 0 rfl) (o := 0) (off := 3) rfl (Cut.one Tryd.isAgg3 rfl)) rfl ?_
         obtain ⟨e28, he28⟩ : ∃ x_, a[(e17.level).toNat]? = some x_ := ⟨_, List.getElem?_eq_getElem (by first | omega | (have h_ := Ld.read_len l; omega))⟩
         refine S.q (Qt.idxM Tryd.runUnderlying30 Tryd.sizeOf3 rfl (Src.row 2 rfl) rfl (by first | omega | (have h_ := Ld.read_len l; omega)) (by first | omega | (have h_ := Ld.read_len l; omega))) rfl ?_
         refine S.q (Qt.ld rfl (Cel.eltM (Src.row 2 rfl) he28) (o := (voff V12 + ((e17.level).toNat) * 1)) (off := 0) (by omega) (Cut.one Tryd.isAgg3 rfl)) rfl ?_
         refine S.p (Pu.add rfl rfl) rfl ?_
         refine S.q (Qt.idxM Tryd.runUnderlying30 Tryd.sizeOf3 rfl (Src.row 2 rfl) rfl (by first | omega | (have h_ := Ld.read_len l; omega)) (by first | omega | (have h_ := Ld.read_len l; omega))) rfl ?_
         refine S.endO ?_
         refine O.l0 (Lo.storeM 2 (j := (e17.level).toNat) (off := 0) (vs := [.int .i64 (IntKind.i64.wrap (e28 + 1))]) (e := [.int .i64 e28]) (IntKind.i64.wrap (e28 + 1)) rfl rfl rfl rfl (by omega) he28 rfl (by exact Tryd.sizeOf3) rfl rfl rfl rfl rfl) ?_
         rintro _ _ rfl
         have hs29 : (a.set (e17.level).toNat (IntKind.i64.wrap (e28 + 1)))[(e17.level).toNat]? = some (IntKind.i64.wrap (e28 + 1)) := List.getElem?_set_self (List.getElem?_eq_some_iff.1 he28).1
         refine O.nil ?_
         refine J.seq ?_
         refine J.region ?_
         refine O.p (Pu.fieldAddr (off' := 2) Tryd.runUnderlying98 rfl Tryd.sizeOf3 rfl rfl rfl) rfl ?_
         refine O.q (Qt.ld rfl (Cel.var 0 rfl) (o := 0) (off := 2) rfl (Cut.one Tryd.isAgg3 rfl)) rfl ?_
         refine O.p (Pu.eql rfl rfl) rfl ?_
         refine O.p (Pu.move rfl) rfl ?_
         refine by_bool (decide (e17.state = 4)) (fun h30 => ?_) (fun h30 => ?_)
         ·
          have p31 := of_decide_eq_true h30
          refine O.gq (t := 73) rfl rfl h30 rfl (Pu.qt (Pu.fieldAddr (off' := 4) Tryd.runUnderlying98 rfl Tryd.sizeOf3 rfl rfl rfl)) rfl ?_
          refine O.gq (t := 73) rfl rfl h30 rfl (Qt.ld rfl (Cel.var 0 rfl) (o := 0) (off := 4) rfl (Cut.one Tryd.isAgg3 rfl)) rfl ?_
          refine O.gq (t := 73) rfl rfl h30 rfl (Pu.qt (Pu.eql rfl rfl)) rfl ?_
          refine O.p (Pu.pickT rfl h30 rfl) rfl ?_
          refine O.nil ?_
          refine J.cond rfl (fun h32 => ?_) (fun h32 => ?_)
          ·
           have p33 := of_decide_eq_true h32
           refine J.drawTail 10 Tryd.mixed (by kernel_rfl) ?_
           refine S.p (Pu.move rfl) rfl ?_
           refine S.p (Pu.fieldAddr (off' := 3) Tryd.runUnderlying98 rfl Tryd.sizeOf3 rfl rfl rfl) rfl ?_
           refine S.q (Qt.ld rfl (Cel.var 0 rfl) (o := 0) (off := 3) rfl (Cut.one Tryd.isAgg3 rfl)) rfl ?_
           refine S.p (Pu.move rfl) rfl ?_
           refine S.p (Pu.fieldAddr (off' := 3) Tryd.runUnderlying98 rfl Tryd.sizeOf3 rfl rfl rfl) rfl ?_
           refine S.q (Qt.ld rfl (Cel.var 0 rfl) (o := 0) (off := 3) rfl (Cut.one Tryd.isAgg3 rfl)) rfl ?_
           obtain ⟨e34, he34⟩ : ∃ x_, b[(e17.level).toNat]? = some x_ := ⟨_, List.getElem?_eq_getElem (by first | omega | (have h_ := Ld.read_len l; omega))⟩
           refine S.q (Qt.idxM Tryd.runUnderlying30 Tryd.sizeOf3 rfl (Src.row 3 rfl) rfl (by first | omega | (have h_ := Ld.read_len l; omega)) (by first | omega | (have h_ := Ld.read_len l; omega))) rfl ?_
           refine S.q (Qt.ld rfl (Cel.eltM (Src.row 3 rfl) he34) (o := (voff V13 + ((e17.level).toNat) * 1)) (off := 0) (by omega) (Cut.one Tryd.isAgg3 rfl)) rfl ?_
           refine S.p (Pu.add rfl rfl) rfl ?_
           refine S.q (Qt.idxM Tryd.runUnderlying30 Tryd.sizeOf3 rfl (Src.row 3 rfl) rfl (by first | omega | (have h_ := Ld.read_len l; omega)) (by first | omega | (have h_ := Ld.read_len l; omega))) rfl ?_
           refine S.endO ?_
           refine O.l0 (Lo.storeM 3 (j := (e17.level).toNat) (off := 0) (vs := [.int .i64 (IntKind.i64.wrap (e34 + 1))]) (e := [.int .i64 e34]) (IntKind.i64.wrap (e34 + 1)) rfl rfl rfl rfl (by omega) he34 rfl (by exact Tryd.sizeOf3) rfl rfl rfl rfl rfl) ?_
           rintro _ _ rfl
           have hs35 : (b.set (e17.level).toNat (IntKind.i64.wrap (e34 + 1)))[(e17.level).toNat]? = some (IntKind.i64.wrap (e34 + 1)) := List.getElem?_set_self (List.getElem?_eq_some_iff.1 he34).1
           refine O.nil ?_
           refine J.blk ?_
           refine J.region ?_
           refine O.p (Pu.move rfl) rfl ?_
           refine O.p (Pu.add' rfl rfl (by first | omega | (have h_ := Ld.read_len l; omega))) rfl ?_
           refine O.p (Pu.assign rfl) rfl ?_
           refine O.nil ?_
           exact J.lp ⟨k + 1, a.set (e17.level).toNat (IntKind.i64.wrap (e28 + 1)), b.set (e17.level).toNat (IntKind.i64.wrap (e34 + 1))⟩ (show (k + 1) ≤ (Ld.read l).1.length ∧ (a.set (e17.level).toNat (IntKind.i64.wrap (e28 + 1))) = upI (Rp.allF s n) (List.replicate n.toNat 0) (Ld.read l).1 (k + 1) ∧ (b.set (e17.level).toNat (IntKind.i64.wrap (e34 + 1))) = upI (Rp.goodF s n) (List.replicate n.toNat 0) (Ld.read l).1 (k + 1) ∧ (a.set (e17.level).toNat (IntKind.i64.wrap (e28 + 1))).length = n.toNat ∧ (b.set (e17.level).toNat (IntKind.i64.wrap (e34 + 1))).length = n.toNat from ⟨by omega, (by rw [upI_succ he17, ← ha]; first | exact (Rp.allF_no (by omega)).symm | exact (Rp.allF_yes (by omega) (by omega) (by omega) ‹_›).symm), (by rw [upI_succ he17, ← hg]; first | exact (Rp.goodF_no (by omega)).symm | exact (Rp.goodF_yes (by omega) (by omega) (by omega) (by omega) (by omega) ‹_›).symm), by first | exact hla | (rw [List.length_set]; exact hla), by first | exact hlb | (rw [List.length_set]; exact hlb)⟩) (show (Ld.read l).1.length - (k + 1) < (Ld.read l).1.length - k from (by first | omega | (have h_ := Ld.read_len l; omega))) ⟨rfl, rfl, rfl, rfl, rfl, rfl, rfl, rfl, (congrArg (fun z => some (Value.int .i64 z)) (by first | rfl | omega : ((k : Int) + 1 : Int) = ((k + 1) : Int))), trivial⟩ [1, 2, 3] (by decide) rfl
          ·
           have p36 := of_decide_eq_false h32
           refine J.skip ?_
           refine J.blk ?_
           refine J.region ?_
           refine O.p (Pu.move rfl) rfl ?_
           refine O.p (Pu.add' rfl rfl (by first | omega | (have h_ := Ld.read_len l; omega))) rfl ?_
           refine O.p (Pu.assign rfl) rfl ?_
           refine O.nil ?_
           exact J.lp ⟨k + 1, a.set (e17.level).toNat (IntKind.i64.wrap (e28 + 1)), b⟩ (show (k + 1) ≤ (Ld.read l).1.length ∧ (a.set (e17.level).toNat (IntKind.i64.wrap (e28 + 1))) = upI (Rp.allF s n) (List.replicate n.toNat 0) (Ld.read l).1 (k + 1) ∧ b = upI (Rp.goodF s n) (List.replicate n.toNat 0) (Ld.read l).1 (k + 1) ∧ (a.set (e17.level).toNat (IntKind.i64.wrap (e28 + 1))).length = n.toNat ∧ b.length = n.toNat from ⟨by omega, (by rw [upI_succ he17, ← ha]; first | exact (Rp.allF_no (by omega)).symm | exact (Rp.allF_yes (by omega) (by omega) (by omega) ‹_›).symm), (by rw [upI_succ he17, ← hg]; first | exact (Rp.goodF_no (by omega)).symm | exact (Rp.goodF_yes (by omega) (by omega) (by omega) (by omega) (by omega) ‹_›).symm), by first | exact hla | (rw [List.length_set]; exact hla), by first | exact hlb | (rw [List.length_set]; exact hlb)⟩) (show (Ld.read l).1.length - (k + 1) < (Ld.read l).1.length - k from (by first | omega | (have h_ := Ld.read_len l; omega))) ⟨rfl, rfl, rfl, rfl, rfl, rfl, rfl, rfl, (congrArg (fun z => some (Value.int .i64 z)) (by first | rfl | omega : ((k : Int) + 1 : Int) = ((k + 1) : Int))), trivial⟩ [1, 2, 3] (by decide) rfl
         ·
          have p37 := of_decide_eq_false h30
          refine O.gskip (t := 73) rfl rfl (no_bool (by rw [h30]; decide)) rfl rfl ?_
          refine O.gskip (t := 73) rfl rfl (no_bool (by rw [h30]; decide)) rfl rfl ?_
          refine O.gskip (t := 73) rfl rfl (no_bool (by rw [h30]; decide)) rfl rfl ?_
          refine O.p (Pu.pickF rfl h30 rfl) rfl ?_
          refine O.nil ?_
          refine J.condF rfl rfl ?_
          refine J.skip ?_
          refine J.blk ?_
          refine J.region ?_
          refine O.p (Pu.move rfl) rfl ?_
          refine O.p (Pu.add' rfl rfl (by first | omega | (have h_ := Ld.read_len l; omega))) rfl ?_
          refine O.p (Pu.assign rfl) rfl ?_
          refine O.nil ?_
          exact J.lp ⟨k + 1, a.set (e17.level).toNat (IntKind.i64.wrap (e28 + 1)), b⟩ (show (k + 1) ≤ (Ld.read l).1.length ∧ (a.set (e17.level).toNat (IntKind.i64.wrap (e28 + 1))) = upI (Rp.allF s n) (List.replicate n.toNat 0) (Ld.read l).1 (k + 1) ∧ b = upI (Rp.goodF s n) (List.replicate n.toNat 0) (Ld.read l).1 (k + 1) ∧ (a.set (e17.level).toNat (IntKind.i64.wrap (e28 + 1))).length = n.toNat ∧ b.length = n.toNat from ⟨by omega, (by rw [upI_succ he17, ← ha]; first | exact (Rp.allF_no (by omega)).symm | exact (Rp.allF_yes (by omega) (by omega) (by omega) ‹_›).symm), (by rw [upI_succ he17, ← hg]; first | exact (Rp.goodF_no (by omega)).symm | exact (Rp.goodF_yes (by omega) (by omega) (by omega) (by omega) (by omega) ‹_›).symm), by first | exact hla | (rw [List.length_set]; exact hla), by first | exact hlb | (rw [List.length_set]; exact hlb)⟩) (show (Ld.read l).1.length - (k + 1) < (Ld.read l).1.length - k from (by first | omega | (have h_ := Ld.read_len l; omega))) ⟨rfl, rfl, rfl, rfl, rfl, rfl, rfl, rfl, (congrArg (fun z => some (Value.int .i64 z)) (by first | rfl | omega : ((k : Int) + 1 : Int) = ((k + 1) : Int))), trivial⟩ [1, 2, 3] (by decide) rfl
     ·
      have p38 := of_decide_eq_false h15
      refine J.exit _ rfl ?_
      refine J.seq ?_
      refine J.region ?_
      refine O.p (Pu.move rfl) rfl ?_
      refine O.p (Pu.move rfl) rfl ?_
      refine O.p (Pu.assign rfl) rfl ?_
      refine O.p (Pu.assign rfl) rfl ?_
      refine O.p (Pu.assign rfl) rfl ?_
      refine O.nil ?_
      exact J.ret (Fin.ret (rs := [.tmp 6, .tmp 7, .tmp 8]) rfl [_, _, _] ⟨rfl, rfl, rfl, trivial⟩ [1, 2] (by decide) [row V12 3 1 (a.map encZ), row V13 3 1 (b.map encZ)] rfl ⟨V12, V13, (by obtain ⟨h1_, h2_, h3_⟩ : _ ∧ _ ∧ _ := Rp.lev_yes (by omega) (Decidable.not_not.1 ‹_›) (s := s) (n := n) (l := l); rw [h1_]; rfl), (by obtain ⟨h1_, h2_, h3_⟩ : _ ∧ _ ∧ _ := Rp.lev_yes (by omega) (Decidable.not_not.1 ‹_›) (s := s) (n := n) (l := l); rw [h2_, h3_, Rp.alls, Rp.goods, show (Ld.read l).1.length = k from by omega, ← ha, ← hg])⟩)
    ·
     refine W.l (listed' := #[true, false, true, true, false, false]) rfl rfl (Lo.makeSliceN (z := (0 : Int)) (f := encZ) (m := n.toNat) (s := 1) (bytes := 8) (by exact Tryd.runUnderlying30) (fun w => run_typeInfo w (by exact (info3).1)) (by exact (info3).2.2.2) (by exact Tryd.sizeOf3) (by exact Tryd.zeroValue3) rfl rfl (by omega) (by omega) (by decide) rfl rfl (by decide) rfl) rfl ?_
     rintro V39 _ rfl
     refine D.all 1 [] (by kernel_rfl) ⟨?_, trivial⟩
     refine W.l (listed' := #[true, true, true, true, false, false]) rfl rfl (Lo.makeSliceN (z := (0 : Int)) (f := encZ) (m := n.toNat) (s := 1) (bytes := 8) (by exact Tryd.runUnderlying30) (fun w => run_typeInfo w (by exact (info3).1)) (by exact (info3).2.2.2) (by exact Tryd.sizeOf3) (by exact Tryd.zeroValue3) rfl rfl (by omega) (by omega) (by decide) rfl rfl (by decide) rfl) rfl ?_
     rintro V40 _ rfl
     refine D.take (listed' := #[true, true, true, true, true, false]) 4 rfl (by kernel_rfl) (by kernel_rfl) (by kernel_rfl) rfl (Pu.assign rfl) rfl ?_
     refine D.take (listed' := #[true, true, true, true, true, true]) 5 rfl (by kernel_rfl) (by kernel_rfl) (by kernel_rfl) rfl (Pu.assign rfl) rfl ?_
     refine D.done (by kernel_rfl) ?_
     refine J.seq ?_
     refine J.seq ?_
     refine J.region ?_
     refine O.p (Pu.assign rfl) rfl ?_
     refine O.nil ?_
     refine J.block ?_
     refine J.loop (X := Nat × List Int × List Int) (fun ξ => ξ.1 ≤ (Ld.read l).1.length ∧ ξ.2.1 = upI (Rp.allF s n) (List.replicate n.toNat 0) (Ld.read l).1 ξ.1 ∧ ξ.2.2 = upI (Rp.goodF s n) (List.replicate n.toNat 0) (Ld.read l).1 ξ.1 ∧ ξ.2.1.length = n.toNat ∧ ξ.2.2.length = n.toNat) (fun ξ => [(0, .int .i64 s), (1, .int .i64 n), (6, Value.slice none 0 0), (7, Value.slice none 0 0), (8, .int .i64 0), (9, V7), (12, V40), (13, V39), (14, .int .i64 (ξ.1 : Int))]) (fun ξ => [row V7 98 8 (((Ld.read l).1).map Ft.cells), row V40 3 1 (ξ.2.1.map encZ), row V39 3 1 (ξ.2.2.map encZ)]) (fun ξ => (Ld.read l).1.length - ξ.1) ⟨0, List.replicate n.toNat 0, List.replicate n.toNat 0⟩ (show 0 ≤ (Ld.read l).1.length ∧ (List.replicate n.toNat 0) = upI (Rp.allF s n) (List.replicate n.toNat 0) (Ld.read l).1 0 ∧ (List.replicate n.toNat 0) = upI (Rp.goodF s n) (List.replicate n.toNat 0) (Ld.read l).1 0 ∧ (List.replicate n.toNat 0).length = n.toNat ∧ (List.replicate n.toNat 0).length = n.toNat from ⟨by omega, rfl, rfl, by simp, by simp⟩) ⟨rfl, rfl, rfl, rfl, rfl, rfl, rfl, rfl, (congrArg (fun z => some (Value.int .i64 z)) (by first | rfl | omega : (0 : Int) = (0 : Int))), trivial⟩ [2, 0, 1] (by decide) rfl ?_
     rintro ⟨k, a, b⟩ hq41
     obtain ⟨hk, ha, hg, hla, hlb⟩ : k ≤ (Ld.read l).1.length ∧ a = upI (Rp.allF s n) (List.replicate n.toNat 0) (Ld.read l).1 k ∧ b = upI (Rp.goodF s n) (List.replicate n.toNat 0) (Ld.read l).1 k ∧ a.length = n.toNat ∧ b.length = n.toNat := hq41
     show J _ _ [(0, .int .i64 s), (1, .int .i64 n), (6, Value.slice none 0 0), (7, Value.slice none 0 0), (8, .int .i64 0), (9, V7), (12, V40), (13, V39), (14, .int .i64 (k : Int))] [row V7 98 8 (((Ld.read l).1).map Ft.cells), row V40 3 1 (a.map encZ), row V39 3 1 (b.map encZ)]
     refine J.seq ?_
     refine J.seq ?_
     refine J.region ?_
     refine O.p (Pu.move rfl) rfl ?_
     refine O.p (Pu.move rfl) rfl ?_
     refine O.q (Qt.lenM Tryd.runUnderlying88 rfl (Src.row 0 rfl)) rfl ?_
     refine O.p (Pu.lss rfl rfl) rfl ?_
     refine O.nil ?_
     refine J.cond rfl (fun h42 => ?_) (fun h42 => ?_)
     ·
      have p43 := of_decide_eq_true h42
      refine J.skip ?_
      refine J.seq ?_
      refine J.block ?_
      refine J.seq ?_
      refine J.region ?_
      refine O.p (Pu.move rfl) rfl ?_
      refine O.p (Pu.move rfl) rfl ?_
      obtain ⟨e44, he44⟩ : ∃ x_, ((Ld.read l).1)[k]? = some x_ := ⟨_, List.getElem?_eq_getElem (by first | omega | (have h_ := Ld.read_len l; omega))⟩
      refine O.q (Qt.idxM Tryd.runUnderlying88 Tryd.sizeOf98 rfl (Src.row 0 rfl) rfl (by first | omega | (have h_ := Ld.read_len l; omega)) (by first | omega | (have h_ := Ld.read_len l; omega))) rfl ?_
      refine O.q (Qt.ld rfl (Cel.eltM (Src.row 0 rfl) he44) (o := (voff V7 + k * 8)) (off := 0) (by omega) (Cut.agg [.int .i64 e44.s, .int .i64 e44.id, .int .i64 e44.state, .int .i64 e44.level, .int .i64 e44.code, .int .i64 e44.came, .int .i64 e44.began, .int .i64 e44.ended] Tryd.isAgg98 Tryd.sizeOf98 rfl rfl)) rfl ?_
      refine O.l (Lo.alloc [.int .i64 0, .int .i64 0, .int .i64 0, .int .i64 0, .int .i64 0, .int .i64 0, .int .i64 0, .int .i64 0] (by exact Tryd.zeroValue98) rfl) rfl ?_
      rintro _ _ ⟨g45, rfl, rfl⟩
      refine O.l0 (Lo.store 0 (vs := [.int .i64 e44.s, .int .i64 e44.id, .int .i64 e44.state, .int .i64 e44.level, .int .i64 e44.code, .int .i64 e44.came, .int .i64 e44.began, .int .i64 e44.ended]) [.int .i64 e44.s, .int .i64 e44.id, .int .i64 e44.state, .int .i64 e44.level, .int .i64 e44.code, .int .i64 e44.came, .int .i64 e44.began, .int .i64 e44.ended] rfl rfl rfl (by exact Tryd.sizeOf98) rfl rfl rfl rfl rfl) ?_
      rintro _ _ rfl
      refine O.nil ?_
      refine J.seq ?_
      refine J.seq ?_
      refine J.region ?_
      refine O.p (Pu.fieldAddr (off' := 0) Tryd.runUnderlying98 rfl Tryd.sizeOf3 rfl rfl rfl) rfl ?_
      refine O.q (Qt.ld rfl (Cel.var 0 rfl) (o := 0) (off := 0) rfl (Cut.one Tryd.isAgg3 rfl)) rfl ?_
      refine O.p (Pu.move rfl) rfl ?_
      refine O.p (Pu.neq rfl rfl) rfl ?_
      refine O.p (Pu.move rfl) rfl ?_
      refine by_bool (decide (e44.s ≠ s)) (fun h46 => ?_) (fun h46 => ?_)
      ·
       have p47 := of_decide_eq_true h46
       refine O.gskip (t := 49) rfl rfl (no_bool (by rw [h46]; decide)) rfl rfl ?_
       refine O.gskip (t := 49) rfl rfl (no_bool (by rw [h46]; decide)) rfl rfl ?_
       refine O.gskip (t := 49) rfl rfl (no_bool (by rw [h46]; decide)) rfl rfl ?_
       refine O.p (Pu.pickT rfl h46 rfl) rfl ?_
       refine O.p (Pu.move rfl) rfl ?_
       refine O.gskip (t := 54) rfl rfl (no_bool (by decide)) rfl rfl ?_
       refine O.gskip (t := 54) rfl rfl (no_bool (by decide)) rfl rfl ?_
       refine O.gskip (t := 54) rfl rfl (no_bool (by decide)) rfl rfl ?_
       refine O.gskip (t := 54) rfl rfl (no_bool (by decide)) rfl rfl ?_
       refine O.p (Pu.pickT rfl rfl rfl) rfl ?_
       refine O.nil ?_
       refine J.condT rfl rfl ?_
       refine J.exit _ rfl ?_
       refine J.region ?_
       refine O.p (Pu.move rfl) rfl ?_
       refine O.p (Pu.add' rfl rfl (by first | omega | (have h_ := Ld.read_len l; omega))) rfl ?_
       refine O.p (Pu.assign rfl) rfl ?_
       refine O.nil ?_
       exact J.lp ⟨k + 1, a, b⟩ (show (k + 1) ≤ (Ld.read l).1.length ∧ a = upI (Rp.allF s n) (List.replicate n.toNat 0) (Ld.read l).1 (k + 1) ∧ b = upI (Rp.goodF s n) (List.replicate n.toNat 0) (Ld.read l).1 (k + 1) ∧ a.length = n.toNat ∧ b.length = n.toNat from ⟨by omega, (by rw [upI_succ he44, ← ha]; first | exact (Rp.allF_no (by omega)).symm | exact (Rp.allF_yes (by omega) (by omega) (by omega) ‹_›).symm), (by rw [upI_succ he44, ← hg]; first | exact (Rp.goodF_no (by omega)).symm | exact (Rp.goodF_yes (by omega) (by omega) (by omega) (by omega) (by omega) ‹_›).symm), by first | exact hla | (rw [List.length_set]; exact hla), by first | exact hlb | (rw [List.length_set]; exact hlb)⟩) (show (Ld.read l).1.length - (k + 1) < (Ld.read l).1.length - k from (by first | omega | (have h_ := Ld.read_len l; omega))) ⟨rfl, rfl, rfl, rfl, rfl, rfl, rfl, rfl, (congrArg (fun z => some (Value.int .i64 z)) (by first | rfl | omega : ((k : Int) + 1 : Int) = ((k + 1) : Int))), trivial⟩ [1, 2, 3] (by decide) rfl
      ·
       have p48 := of_decide_eq_false h46
       refine O.gq (t := 49) rfl rfl h46 rfl (Pu.qt (Pu.fieldAddr (off' := 3) Tryd.runUnderlying98 rfl Tryd.sizeOf3 rfl rfl rfl)) rfl ?_
       refine O.gq (t := 49) rfl rfl h46 rfl (Qt.ld rfl (Cel.var 0 rfl) (o := 0) (off := 3) rfl (Cut.one Tryd.isAgg3 rfl)) rfl ?_
       refine O.gq (t := 49) rfl rfl h46 rfl (Pu.qt (Pu.lss rfl rfl)) rfl ?_
       refine O.p (Pu.pickF rfl h46 rfl) rfl ?_
       refine O.p (Pu.move rfl) rfl ?_
       refine by_bool (decide (e44.level < 0)) (fun h49 => ?_) (fun h49 => ?_)
       ·
        have p50 := of_decide_eq_true h49
        refine O.gskip (t := 54) rfl rfl (no_bool (by rw [h49]; decide)) rfl rfl ?_
        refine O.gskip (t := 54) rfl rfl (no_bool (by rw [h49]; decide)) rfl rfl ?_
        refine O.gskip (t := 54) rfl rfl (no_bool (by rw [h49]; decide)) rfl rfl ?_
        refine O.gskip (t := 54) rfl rfl (no_bool (by rw [h49]; decide)) rfl rfl ?_
        refine O.p (Pu.pickT rfl h49 rfl) rfl ?_
        refine O.nil ?_
        refine J.condT rfl rfl ?_
        refine J.exit _ rfl ?_
        refine J.region ?_
        refine O.p (Pu.move rfl) rfl ?_
        refine O.p (Pu.add' rfl rfl (by first | omega | (have h_ := Ld.read_len l; omega))) rfl ?_
        refine O.p (Pu.assign rfl) rfl ?_
        refine O.nil ?_
        exact J.lp ⟨k + 1, a, b⟩ (show (k + 1) ≤ (Ld.read l).1.length ∧ a = upI (Rp.allF s n) (List.replicate n.toNat 0) (Ld.read l).1 (k + 1) ∧ b = upI (Rp.goodF s n) (List.replicate n.toNat 0) (Ld.read l).1 (k + 1) ∧ a.length = n.toNat ∧ b.length = n.toNat from ⟨by omega, (by rw [upI_succ he44, ← ha]; first | exact (Rp.allF_no (by omega)).symm | exact (Rp.allF_yes (by omega) (by omega) (by omega) ‹_›).symm), (by rw [upI_succ he44, ← hg]; first | exact (Rp.goodF_no (by omega)).symm | exact (Rp.goodF_yes (by omega) (by omega) (by omega) (by omega) (by omega) ‹_›).symm), by first | exact hla | (rw [List.length_set]; exact hla), by first | exact hlb | (rw [List.length_set]; exact hlb)⟩) (show (Ld.read l).1.length - (k + 1) < (Ld.read l).1.length - k from (by first | omega | (have h_ := Ld.read_len l; omega))) ⟨rfl, rfl, rfl, rfl, rfl, rfl, rfl, rfl, (congrArg (fun z => some (Value.int .i64 z)) (by first | rfl | omega : ((k : Int) + 1 : Int) = ((k + 1) : Int))), trivial⟩ [1, 2, 3] (by decide) rfl
       ·
        have p51 := of_decide_eq_false h49
        refine O.gq (t := 54) rfl rfl h49 rfl (Pu.qt (Pu.fieldAddr (off' := 3) Tryd.runUnderlying98 rfl Tryd.sizeOf3 rfl rfl rfl)) rfl ?_
        refine O.gq (t := 54) rfl rfl h49 rfl (Qt.ld rfl (Cel.var 0 rfl) (o := 0) (off := 3) rfl (Cut.one Tryd.isAgg3 rfl)) rfl ?_
        refine O.gq (t := 54) rfl rfl h49 rfl (Pu.qt (Pu.move rfl)) rfl ?_
        refine O.gq (t := 54) rfl rfl h49 rfl (Pu.qt (Pu.geq rfl rfl)) rfl ?_
        refine O.p (Pu.pickF rfl h49 rfl) rfl ?_
        refine O.nil ?_
        refine J.cond rfl (fun h52 => ?_) (fun h52 => ?_)
        ·
         have p53 := of_decide_eq_true h52
         refine J.exit _ rfl ?_
         refine J.region ?_
         refine O.p (Pu.move rfl) rfl ?_
         refine O.p (Pu.add' rfl rfl (by first | omega | (have h_ := Ld.read_len l; omega))) rfl ?_
         refine O.p (Pu.assign rfl) rfl ?_
         refine O.nil ?_
         exact J.lp ⟨k + 1, a, b⟩ (show (k + 1) ≤ (Ld.read l).1.length ∧ a = upI (Rp.allF s n) (List.replicate n.toNat 0) (Ld.read l).1 (k + 1) ∧ b = upI (Rp.goodF s n) (List.replicate n.toNat 0) (Ld.read l).1 (k + 1) ∧ a.length = n.toNat ∧ b.length = n.toNat from ⟨by omega, (by rw [upI_succ he44, ← ha]; first | exact (Rp.allF_no (by omega)).symm | exact (Rp.allF_yes (by omega) (by omega) (by omega) ‹_›).symm), (by rw [upI_succ he44, ← hg]; first | exact (Rp.goodF_no (by omega)).symm | exact (Rp.goodF_yes (by omega) (by omega) (by omega) (by omega) (by omega) ‹_›).symm), by first | exact hla | (rw [List.length_set]; exact hla), by first | exact hlb | (rw [List.length_set]; exact hlb)⟩) (show (Ld.read l).1.length - (k + 1) < (Ld.read l).1.length - k from (by first | omega | (have h_ := Ld.read_len l; omega))) ⟨rfl, rfl, rfl, rfl, rfl, rfl, rfl, rfl, (congrArg (fun z => some (Value.int .i64 z)) (by first | rfl | omega : ((k : Int) + 1 : Int) = ((k + 1) : Int))), trivial⟩ [1, 2, 3] (by decide) rfl
        ·
         have p54 := of_decide_eq_false h52
         refine J.skip ?_
         refine J.seq ?_
         refine J.drawTail 10 Tryd.mixed (by kernel_rfl) ?_
         refine S.p (Pu.move rfl) rfl ?_
         refine S.p (Pu.fieldAddr (off' := 3) Tryd.runUnderlying98 rfl Tryd.sizeOf3 rfl rfl rfl) rfl ?_
         refine S.q (Qt.ld rfl (Cel.var 0 rfl) (o := 0) (off := 3) rfl (Cut.one Tryd.isAgg3 rfl)) rfl ?_
         refine S.p (Pu.move rfl) rfl ?_
         refine S.p (Pu.fieldAddr (off' := 3) Tryd.runUnderlying98 rfl Tryd.sizeOf3 rfl rfl rfl) rfl ?_
         refine S.q (Qt.ld rfl (Cel.var 0 rfl) (o := 0) (off := 3) rfl (Cut.one Tryd.isAgg3 rfl)) rfl ?_
         obtain ⟨e55, he55⟩ : ∃ x_, a[(e44.level).toNat]? = some x_ := ⟨_, List.getElem?_eq_getElem (by first | omega | (have h_ := Ld.read_len l; omega))⟩
         refine S.q (Qt.idxM Tryd.runUnderlying30 Tryd.sizeOf3 rfl (Src.row 2 rfl) rfl (by first | omega | (have h_ := Ld.read_len l; omega)) (by first | omega | (have h_ := Ld.read_len l; omega))) rfl ?_
         refine S.q (Qt.ld rfl (Cel.eltM (Src.row 2 rfl) he55) (o := (voff V40 + ((e44.level).toNat) * 1)) (off := 0) (by omega) (Cut.one Tryd.isAgg3 rfl)) rfl ?_
         refine S.p (Pu.add rfl rfl) rfl ?_
         refine S.q (Qt.idxM Tryd.runUnderlying30 Tryd.sizeOf3 rfl (Src.row 2 rfl) rfl (by first | omega | (have h_ := Ld.read_len l; omega)) (by first | omega | (have h_ := Ld.read_len l; omega))) rfl ?_
         refine S.endO ?_
         refine O.l0 (Lo.storeM 2 (j := (e44.level).toNat) (off := 0) (vs := [.int .i64 (IntKind.i64.wrap (e55 + 1))]) (e := [.int .i64 e55]) (IntKind.i64.wrap (e55 + 1)) rfl rfl rfl rfl (by omega) he55 rfl (by exact Tryd.sizeOf3) rfl rfl rfl rfl rfl) ?_
         rintro _ _ rfl
         have hs56 : (a.set (e44.level).toNat (IntKind.i64.wrap (e55 + 1)))[(e44.level).toNat]? = some (IntKind.i64.wrap (e55 + 1)) := List.getElem?_set_self (List.getElem?_eq_some_iff.1 he55).1
         refine O.nil ?_
         refine J.seq ?_
         refine J.region ?_
         refine O.p (Pu.fieldAddr (off' := 2) Tryd.runUnderlying98 rfl Tryd.sizeOf3 rfl rfl rfl) rfl ?_
         refine O.q (Qt.ld rfl (Cel.var 0 rfl) (o := 0) (off := 2) rfl (Cut.one Tryd.isAgg3 rfl)) rfl ?_
         refine O.p (Pu.eql rfl rfl) rfl ?_
         refine O.p (Pu.move rfl) rfl ?_
         refine by_bool (decide (e44.state = 4)) (fun h57 => ?_) (fun h57 => ?_)
         ·
          have p58 := of_decide_eq_true h57
          refine O.gq (t := 73) rfl rfl h57 rfl (Pu.qt (Pu.fieldAddr (off' := 4) Tryd.runUnderlying98 rfl Tryd.sizeOf3 rfl rfl rfl)) rfl ?_
          refine O.gq (t := 73) rfl rfl h57 rfl (Qt.ld rfl (Cel.var 0 rfl) (o := 0) (off := 4) rfl (Cut.one Tryd.isAgg3 rfl)) rfl ?_
          refine O.gq (t := 73) rfl rfl h57 rfl (Pu.qt (Pu.eql rfl rfl)) rfl ?_
          refine O.p (Pu.pickT rfl h57 rfl) rfl ?_
          refine O.nil ?_
          refine J.cond rfl (fun h59 => ?_) (fun h59 => ?_)
          ·
           have p60 := of_decide_eq_true h59
           refine J.drawTail 10 Tryd.mixed (by kernel_rfl) ?_
           refine S.p (Pu.move rfl) rfl ?_
           refine S.p (Pu.fieldAddr (off' := 3) Tryd.runUnderlying98 rfl Tryd.sizeOf3 rfl rfl rfl) rfl ?_
           refine S.q (Qt.ld rfl (Cel.var 0 rfl) (o := 0) (off := 3) rfl (Cut.one Tryd.isAgg3 rfl)) rfl ?_
           refine S.p (Pu.move rfl) rfl ?_
           refine S.p (Pu.fieldAddr (off' := 3) Tryd.runUnderlying98 rfl Tryd.sizeOf3 rfl rfl rfl) rfl ?_
           refine S.q (Qt.ld rfl (Cel.var 0 rfl) (o := 0) (off := 3) rfl (Cut.one Tryd.isAgg3 rfl)) rfl ?_
           obtain ⟨e61, he61⟩ : ∃ x_, b[(e44.level).toNat]? = some x_ := ⟨_, List.getElem?_eq_getElem (by first | omega | (have h_ := Ld.read_len l; omega))⟩
           refine S.q (Qt.idxM Tryd.runUnderlying30 Tryd.sizeOf3 rfl (Src.row 3 rfl) rfl (by first | omega | (have h_ := Ld.read_len l; omega)) (by first | omega | (have h_ := Ld.read_len l; omega))) rfl ?_
           refine S.q (Qt.ld rfl (Cel.eltM (Src.row 3 rfl) he61) (o := (voff V39 + ((e44.level).toNat) * 1)) (off := 0) (by omega) (Cut.one Tryd.isAgg3 rfl)) rfl ?_
           refine S.p (Pu.add rfl rfl) rfl ?_
           refine S.q (Qt.idxM Tryd.runUnderlying30 Tryd.sizeOf3 rfl (Src.row 3 rfl) rfl (by first | omega | (have h_ := Ld.read_len l; omega)) (by first | omega | (have h_ := Ld.read_len l; omega))) rfl ?_
           refine S.endO ?_
           refine O.l0 (Lo.storeM 3 (j := (e44.level).toNat) (off := 0) (vs := [.int .i64 (IntKind.i64.wrap (e61 + 1))]) (e := [.int .i64 e61]) (IntKind.i64.wrap (e61 + 1)) rfl rfl rfl rfl (by omega) he61 rfl (by exact Tryd.sizeOf3) rfl rfl rfl rfl rfl) ?_
           rintro _ _ rfl
           have hs62 : (b.set (e44.level).toNat (IntKind.i64.wrap (e61 + 1)))[(e44.level).toNat]? = some (IntKind.i64.wrap (e61 + 1)) := List.getElem?_set_self (List.getElem?_eq_some_iff.1 he61).1
           refine O.nil ?_
           refine J.blk ?_
           refine J.region ?_
           refine O.p (Pu.move rfl) rfl ?_
           refine O.p (Pu.add' rfl rfl (by first | omega | (have h_ := Ld.read_len l; omega))) rfl ?_
           refine O.p (Pu.assign rfl) rfl ?_
           refine O.nil ?_
           exact J.lp ⟨k + 1, a.set (e44.level).toNat (IntKind.i64.wrap (e55 + 1)), b.set (e44.level).toNat (IntKind.i64.wrap (e61 + 1))⟩ (show (k + 1) ≤ (Ld.read l).1.length ∧ (a.set (e44.level).toNat (IntKind.i64.wrap (e55 + 1))) = upI (Rp.allF s n) (List.replicate n.toNat 0) (Ld.read l).1 (k + 1) ∧ (b.set (e44.level).toNat (IntKind.i64.wrap (e61 + 1))) = upI (Rp.goodF s n) (List.replicate n.toNat 0) (Ld.read l).1 (k + 1) ∧ (a.set (e44.level).toNat (IntKind.i64.wrap (e55 + 1))).length = n.toNat ∧ (b.set (e44.level).toNat (IntKind.i64.wrap (e61 + 1))).length = n.toNat from ⟨by omega, (by rw [upI_succ he44, ← ha]; first | exact (Rp.allF_no (by omega)).symm | exact (Rp.allF_yes (by omega) (by omega) (by omega) ‹_›).symm), (by rw [upI_succ he44, ← hg]; first | exact (Rp.goodF_no (by omega)).symm | exact (Rp.goodF_yes (by omega) (by omega) (by omega) (by omega) (by omega) ‹_›).symm), by first | exact hla | (rw [List.length_set]; exact hla), by first | exact hlb | (rw [List.length_set]; exact hlb)⟩) (show (Ld.read l).1.length - (k + 1) < (Ld.read l).1.length - k from (by first | omega | (have h_ := Ld.read_len l; omega))) ⟨rfl, rfl, rfl, rfl, rfl, rfl, rfl, rfl, (congrArg (fun z => some (Value.int .i64 z)) (by first | rfl | omega : ((k : Int) + 1 : Int) = ((k + 1) : Int))), trivial⟩ [1, 2, 3] (by decide) rfl
          ·
           have p63 := of_decide_eq_false h59
           refine J.skip ?_
           refine J.blk ?_
           refine J.region ?_
           refine O.p (Pu.move rfl) rfl ?_
           refine O.p (Pu.add' rfl rfl (by first | omega | (have h_ := Ld.read_len l; omega))) rfl ?_
           refine O.p (Pu.assign rfl) rfl ?_
           refine O.nil ?_
           exact J.lp ⟨k + 1, a.set (e44.level).toNat (IntKind.i64.wrap (e55 + 1)), b⟩ (show (k + 1) ≤ (Ld.read l).1.length ∧ (a.set (e44.level).toNat (IntKind.i64.wrap (e55 + 1))) = upI (Rp.allF s n) (List.replicate n.toNat 0) (Ld.read l).1 (k + 1) ∧ b = upI (Rp.goodF s n) (List.replicate n.toNat 0) (Ld.read l).1 (k + 1) ∧ (a.set (e44.level).toNat (IntKind.i64.wrap (e55 + 1))).length = n.toNat ∧ b.length = n.toNat from ⟨by omega, (by rw [upI_succ he44, ← ha]; first | exact (Rp.allF_no (by omega)).symm | exact (Rp.allF_yes (by omega) (by omega) (by omega) ‹_›).symm), (by rw [upI_succ he44, ← hg]; first | exact (Rp.goodF_no (by omega)).symm | exact (Rp.goodF_yes (by omega) (by omega) (by omega) (by omega) (by omega) ‹_›).symm), by first | exact hla | (rw [List.length_set]; exact hla), by first | exact hlb | (rw [List.length_set]; exact hlb)⟩) (show (Ld.read l).1.length - (k + 1) < (Ld.read l).1.length - k from (by first | omega | (have h_ := Ld.read_len l; omega))) ⟨rfl, rfl, rfl, rfl, rfl, rfl, rfl, rfl, (congrArg (fun z => some (Value.int .i64 z)) (by first | rfl | omega : ((k : Int) + 1 : Int) = ((k + 1) : Int))), trivial⟩ [1, 2, 3] (by decide) rfl
         ·
          have p64 := of_decide_eq_false h57
          refine O.gskip (t := 73) rfl rfl (no_bool (by rw [h57]; decide)) rfl rfl ?_
          refine O.gskip (t := 73) rfl rfl (no_bool (by rw [h57]; decide)) rfl rfl ?_
          refine O.gskip (t := 73) rfl rfl (no_bool (by rw [h57]; decide)) rfl rfl ?_
          refine O.p (Pu.pickF rfl h57 rfl) rfl ?_
          refine O.nil ?_
          refine J.condF rfl rfl ?_
          refine J.skip ?_
          refine J.blk ?_
          refine J.region ?_
          refine O.p (Pu.move rfl) rfl ?_
          refine O.p (Pu.add' rfl rfl (by first | omega | (have h_ := Ld.read_len l; omega))) rfl ?_
          refine O.p (Pu.assign rfl) rfl ?_
          refine O.nil ?_
          exact J.lp ⟨k + 1, a.set (e44.level).toNat (IntKind.i64.wrap (e55 + 1)), b⟩ (show (k + 1) ≤ (Ld.read l).1.length ∧ (a.set (e44.level).toNat (IntKind.i64.wrap (e55 + 1))) = upI (Rp.allF s n) (List.replicate n.toNat 0) (Ld.read l).1 (k + 1) ∧ b = upI (Rp.goodF s n) (List.replicate n.toNat 0) (Ld.read l).1 (k + 1) ∧ (a.set (e44.level).toNat (IntKind.i64.wrap (e55 + 1))).length = n.toNat ∧ b.length = n.toNat from ⟨by omega, (by rw [upI_succ he44, ← ha]; first | exact (Rp.allF_no (by omega)).symm | exact (Rp.allF_yes (by omega) (by omega) (by omega) ‹_›).symm), (by rw [upI_succ he44, ← hg]; first | exact (Rp.goodF_no (by omega)).symm | exact (Rp.goodF_yes (by omega) (by omega) (by omega) (by omega) (by omega) ‹_›).symm), by first | exact hla | (rw [List.length_set]; exact hla), by first | exact hlb | (rw [List.length_set]; exact hlb)⟩) (show (Ld.read l).1.length - (k + 1) < (Ld.read l).1.length - k from (by first | omega | (have h_ := Ld.read_len l; omega))) ⟨rfl, rfl, rfl, rfl, rfl, rfl, rfl, rfl, (congrArg (fun z => some (Value.int .i64 z)) (by first | rfl | omega : ((k : Int) + 1 : Int) = ((k + 1) : Int))), trivial⟩ [1, 2, 3] (by decide) rfl
     ·
      have p65 := of_decide_eq_false h42
      refine J.exit _ rfl ?_
      refine J.seq ?_
      refine J.region ?_
      refine O.p (Pu.move rfl) rfl ?_
      refine O.p (Pu.move rfl) rfl ?_
      refine O.p (Pu.assign rfl) rfl ?_
      refine O.p (Pu.assign rfl) rfl ?_
      refine O.p (Pu.assign rfl) rfl ?_
      refine O.nil ?_
      exact J.ret (Fin.ret (rs := [.tmp 6, .tmp 7, .tmp 8]) rfl [_, _, _] ⟨rfl, rfl, rfl, trivial⟩ [1, 2] (by decide) [row V40 3 1 (a.map encZ), row V39 3 1 (b.map encZ)] rfl ⟨V40, V39, (by obtain ⟨h1_, h2_, h3_⟩ : _ ∧ _ ∧ _ := Rp.lev_yes (by omega) (Decidable.not_not.1 ‹_›) (s := s) (n := n) (l := l); rw [h1_]; rfl), (by obtain ⟨h1_, h2_, h3_⟩ : _ ∧ _ ∧ _ := Rp.lev_yes (by omega) (Decidable.not_not.1 ‹_›) (s := s) (n := n) (l := l); rw [h2_, h3_, Rp.alls, Rp.goods, show (Ld.read l).1.length = k from by omega, ← ha, ← hg])⟩)

end Go.Proofs.YtilcmkegbmppnaaDoor
