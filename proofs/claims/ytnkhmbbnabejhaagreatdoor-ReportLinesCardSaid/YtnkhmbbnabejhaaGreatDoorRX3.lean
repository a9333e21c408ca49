/-
  Walks, printed by a program of mine (lk.py): each function meets its contract.
-/
import Derived.KernelRfl
import Derived.Test.YtnkhmbbnabejhaaGreatDoorRX1
import Derived.Test.YtnkhmbbnabejhaaGreatDoorRX8
import Derived.Test.YtnkhmbbnabejhaaGreatDoorLedgerA
namespace Go.Proofs.YtnkhmbbnabejhaaGreatDoor
open Go Go.LK
set_option linter.unusedSimpArgs false

set_option maxRecDepth 100000 in
theorem rp_Of (s : Int) (lv : Value) (l : List Ev) (hl : l.length ≤ 80000) : Tri Tryz.prog 19 #[.int .i64 s, lv] [rd lv 7 (l.map Ev.cells)] [] (fun v L' => v = .tuple #[.agg #[.int .i64 (((Rp.of s l).1).d0), .int .i64 (((Rp.of s l).1).d1), .int .i64 (((Rp.of s l).1).d2), .int .i64 (((Rp.of s l).1).d3), .int .i64 (((Rp.of s l).1).d4), .int .i64 (((Rp.of s l).1).d5), .int .i64 (((Rp.of s l).1).d6), .int .i64 (((Rp.of s l).1).d7), .int .i64 (((Rp.of s l).1).d8), .int .i64 (((Rp.of s l).1).d9), .int .i64 (((Rp.of s l).1).d10), .int .i64 (((Rp.of s l).1).d11)], .int .i64 (Rp.of s l).2.1, .int .i64 (Rp.of s l).2.2] ∧ L' = []) := by
 refine Tri.enter (args := [.int .i64 s, lv]) (body := _) 39 Tryz.func19 rfl Tryz.ntmps19 rfl ?_
 intro w0
 refine J.seq ?_
 refine J.region ?_
 refine O.l (Lo.alloc [.int .i64 0, .int .i64 0, .int .i64 0, .int .i64 0, .int .i64 0, .int .i64 0, .int .i64 0, .int .i64 0, .int .i64 0, .int .i64 0, .int .i64 0, .int .i64 0] (by exact Tryz.zeroValue23) rfl) rfl ?_
 rintro _ _ ⟨g1, rfl, rfl⟩
 refine O.p (Pu.assign rfl) rfl ?_
 refine O.p (Pu.assign rfl) rfl ?_
 refine O.nil ?_
 refine J.seq ?_
 refine J.seq ?_
 refine J.region ?_
 refine O.p (Pu.move rfl) rfl ?_
 refine O.l (Lo.call [lv] (by exact Tryz.call37) rfl (ld_Read lv l (by omega)) [] [0] (by decide) rfl [var g1 [.int .i64 0, .int .i64 0, .int .i64 0, .int .i64 0, .int .i64 0, .int .i64 0, .int .i64 0, .int .i64 0, .int .i64 0, .int .i64 0, .int .i64 0, .int .i64 0] 23] rfl (RoOk.ro 0 rfl [] rfl RoOk.nil)) rfl ?_
 rintro _ _ ⟨_, ⟨V3, rfl, rfl⟩, rfl⟩
 refine O.p (Pu.move rfl) rfl ?_
 refine O.p (Pu.extract rfl rfl) rfl ?_
 refine O.p (Pu.extract rfl rfl) rfl ?_
 refine O.p (Pu.extract rfl rfl) rfl ?_
 refine O.p (Pu.assign rfl) rfl ?_
 refine O.p (Pu.assign rfl) rfl ?_
 refine O.p (Pu.assign rfl) rfl ?_
 refine O.nil ?_
 refine J.seq ?_
 refine J.region ?_
 refine O.p (Pu.move rfl) rfl ?_
 refine O.p (Pu.neq rfl rfl) rfl ?_
 refine O.nil ?_
 refine J.cond rfl (fun h5 => ?_) (fun h5 => ?_)
 ·
  have p6 := of_decide_eq_true h5
  refine J.seq ?_
  refine J.region ?_
  refine O.p (Pu.build [] [.int .i64 0, .int .i64 0, .int .i64 0, .int .i64 0, .int .i64 0, .int .i64 0, .int .i64 0, .int .i64 0, .int .i64 0, .int .i64 0, .int .i64 0, .int .i64 0] #[(0, 1), (1, 1), (2, 1), (3, 1), (4, 1), (5, 1), (6, 1), (7, 1), (8, 1), (9, 1), (10, 1), (11, 1)] Tryz.runUnderlying23 Tryz.zeroValue23 (places23 Tryz.underlying23) rfl (by kernel_rfl)) rfl ?_
  refine O.p (Pu.move rfl) rfl ?_
  refine O.p (Pu.move rfl) rfl ?_
  refine O.l0 (Lo.store 1 (vs := [.int .i64 0, .int .i64 0, .int .i64 0, .int .i64 0, .int .i64 0, .int .i64 0, .int .i64 0, .int .i64 0, .int .i64 0, .int .i64 0, .int .i64 0, .int .i64 0]) [.int .i64 0, .int .i64 0, .int .i64 0, .int .i64 0, .int .i64 0, .int .i64 0, .int .i64 0, .int .i64 0, .int .i64 0, .int .i64 0, .int .i64 0, .int .i64 0] rfl rfl rfl (by exact Tryz.sizeOf23) rfl rfl rfl rfl rfl) ?_
  rintro _ _ rfl
  refine O.p (Pu.assign rfl) rfl ?_
  refine O.p (Pu.assign rfl) rfl ?_
  refine O.nil ?_
  exact J.ret (Fin.ret (rs := [.cell 4 23, .tmp 5, .tmp 6]) rfl [_, _, _] ⟨⟨_, _, 0, 0, _, rfl, (Cel.var 1 rfl), rfl, (Cut.agg [.int .i64 0, .int .i64 0, .int .i64 0, .int .i64 0, .int .i64 0, .int .i64 0, .int .i64 0, .int .i64 0, .int .i64 0, .int .i64 0, .int .i64 0, .int .i64 0] Tryz.isAgg23 Tryz.sizeOf23 rfl rfl)⟩, rfl, rfl, trivial⟩ [] (by decide) [] rfl ⟨(by rw [Rp.of_no ‹_›]; rfl), rfl⟩)
 ·
  have p7 := of_decide_eq_false h5
  refine J.skip ?_
  refine J.seq ?_
  refine J.region ?_
  refine O.l (Lo.alloc [.int .i64 0, .int .i64 0, .int .i64 0, .int .i64 0, .int .i64 0, .int .i64 0, .int .i64 0, .int .i64 0, .int .i64 0, .int .i64 0, .int .i64 0, .int .i64 0] (by exact Tryz.zeroValue23) rfl) rfl ?_
  rintro _ _ ⟨g8, rfl, rfl⟩
  refine O.nil ?_
  refine J.seq ?_
  refine J.seq ?_
  refine J.region ?_
  refine O.p (Pu.move rfl) rfl ?_
  refine O.p (Pu.move rfl) rfl ?_
  refine O.l (Lo.call [.int .i64 s, lv] (by exact Tryz.call38) rfl (trace_of s lv l (by omega)) [] [0, 1, 2] (by decide) rfl [var g8 [.int .i64 0, .int .i64 0, .int .i64 0, .int .i64 0, .int .i64 0, .int .i64 0, .int .i64 0, .int .i64 0, .int .i64 0, .int .i64 0, .int .i64 0, .int .i64 0] 23, row V3 111 8 (((Ld.read l).1).map Ft.cells), var g1 [.int .i64 0, .int .i64 0, .int .i64 0, .int .i64 0, .int .i64 0, .int .i64 0, .int .i64 0, .int .i64 0, .int .i64 0, .int .i64 0, .int .i64 0, .int .i64 0] 23] rfl (RoOk.ro 0 rfl [] rfl RoOk.nil)) rfl ?_
  rintro v9 _ ⟨_, rfl, rfl⟩
  refine O.q (Qt.lenM Tryz.runUnderlying32 rfl (Src.row 0 rfl)) rfl ?_
  refine O.p (Pu.move rfl) rfl ?_
  refine O.nil ?_
  refine J.block ?_
  refine J.loop (X := Nat × Rep) (fun ξ => ξ.1 ≤ (Mono.of s l).length ∧ ξ.2 = Rp.cntF (Mono.of s l) ξ.1) (fun ξ => [(4, .pointer (some ⟨g1, 0, none⟩)), (5, .int .i64 0), (6, .int .i64 0), (10, .pointer (some ⟨g8, 0, none⟩)), (26, v9), (27, .int .i64 ((Mono.of s l).length : Int)), (28, .int .i64 (ξ.1 : Int))]) (fun ξ => [row v9 47 7 ((Mono.of s l).map Ev.cells), var g8 [.int .i64 ξ.2.d0, .int .i64 ξ.2.d1, .int .i64 ξ.2.d2, .int .i64 ξ.2.d3, .int .i64 ξ.2.d4, .int .i64 ξ.2.d5, .int .i64 ξ.2.d6, .int .i64 ξ.2.d7, .int .i64 ξ.2.d8, .int .i64 ξ.2.d9, .int .i64 ξ.2.d10, .int .i64 ξ.2.d11] 23, var g1 [.int .i64 0, .int .i64 0, .int .i64 0, .int .i64 0, .int .i64 0, .int .i64 0, .int .i64 0, .int .i64 0, .int .i64 0, .int .i64 0, .int .i64 0, .int .i64 0] 23]) (fun ξ => (Mono.of s l).length - ξ.1) ⟨0, Rp.zero⟩ (show 0 ≤ (Mono.of s l).length ∧ Rp.zero = Rp.cntF (Mono.of s l) 0 from ⟨by omega, rfl⟩) ⟨rfl, rfl, rfl, rfl, rfl, rfl, (congrArg (fun z => some (Value.int .i64 z)) (by first | rfl | omega : (0 : Int) = (0 : Int))), trivial⟩ [0, 1, 3] (by decide) rfl ?_
  rintro ⟨k, r⟩ hq10
  obtain ⟨hk, hr⟩ : k ≤ (Mono.of s l).length ∧ r = Rp.cntF (Mono.of s l) k := hq10
  show J _ _ [(4, .pointer (some ⟨g1, 0, none⟩)), (5, .int .i64 0), (6, .int .i64 0), (10, .pointer (some ⟨g8, 0, none⟩)), (26, v9), (27, .int .i64 ((Mono.of s l).length : Int)), (28, .int .i64 (k : Int))] [row v9 47 7 ((Mono.of s l).map Ev.cells), var g8 [.int .i64 r.d0, .int .i64 r.d1, .int .i64 r.d2, .int .i64 r.d3, .int .i64 r.d4, .int .i64 r.d5, .int .i64 r.d6, .int .i64 r.d7, .int .i64 r.d8, .int .i64 r.d9, .int .i64 r.d10, .int .i64 r.d11] 23, var g1 [.int .i64 0, .int .i64 0, .int .i64 0, .int .i64 0, .int .i64 0, .int .i64 0, .int .i64 0, .int .i64 0, .int .i64 0, .int .i64 0, .int .i64 0, .int .i64 0] 23]
  refine J.seq ?_
  refine J.region ?_
  refine O.p (Pu.lss rfl rfl) rfl ?_
  refine O.nil ?_
  refine J.seq ?_
  refine J.cond rfl (fun h11 => ?_) (fun h11 => ?_)
  ·
   have p12 := of_decide_eq_true h11
   refine J.skip ?_
   refine J.seq ?_
   refine J.block ?_
   refine J.seq ?_
   refine J.region ?_
   obtain ⟨e13, he13⟩ : ∃ x_, (Mono.of s l)[k]? = some x_ := ⟨_, List.getElem?_eq_getElem (by first | omega | (have h_ := Mono.of_len s l; omega))⟩
   refine O.q (Qt.idxM Tryz.runUnderlying32 Tryz.sizeOf47 rfl (Src.row 0 rfl) rfl (by first | omega | (have h_ := Mono.of_len s l; omega)) (by first | omega | (have h_ := Mono.of_len s l; omega))) rfl ?_
   refine O.q (Qt.ld rfl (Cel.eltM (Src.row 0 rfl) he13) (o := (voff v9 + k * 7)) (off := 0) (by omega) (Cut.agg [.int .i64 e13.kind, .int .i64 e13.tick, .int .i64 e13.s, .int .i64 e13.id, .int .i64 e13.code, .int .i64 e13.a, .int .i64 e13.b] Tryz.isAgg47 Tryz.sizeOf47 rfl rfl)) rfl ?_
   refine O.l (Lo.alloc [.int .i64 0, .int .i64 0, .int .i64 0, .int .i64 0, .int .i64 0, .int .i64 0, .int .i64 0] (by exact Tryz.zeroValue47) rfl) rfl ?_
   rintro _ _ ⟨g14, rfl, rfl⟩
   refine O.l0 (Lo.store 0 (vs := [.int .i64 e13.kind, .int .i64 e13.tick, .int .i64 e13.s, .int .i64 e13.id, .int .i64 e13.code, .int .i64 e13.a, .int .i64 e13.b]) [.int .i64 e13.kind, .int .i64 e13.tick, .int .i64 e13.s, .int .i64 e13.id, .int .i64 e13.code, .int .i64 e13.a, .int .i64 e13.b] rfl rfl rfl (by exact Tryz.sizeOf47) rfl rfl rfl rfl rfl) ?_
   rintro _ _ rfl
   refine O.nil ?_
   refine J.region ?_
   refine O.q (Qt.ld rfl (Cel.var 0 rfl) (o := 0) (off := 0) rfl (Cut.agg [.int .i64 e13.kind, .int .i64 e13.tick, .int .i64 e13.s, .int .i64 e13.id, .int .i64 e13.code, .int .i64 e13.a, .int .i64 e13.b] Tryz.isAgg47 Tryz.sizeOf47 rfl rfl)) rfl ?_
   refine O.l (Lo.call [.pointer (some ⟨g8, 0, none⟩), .agg #[.int .i64 e13.kind, .int .i64 e13.tick, .int .i64 e13.s, .int .i64 e13.id, .int .i64 e13.code, .int .i64 e13.a, .int .i64 e13.b]] (by exact Tryz.call39) rfl (rp_count g8 r e13) [2] [0, 1, 3] (by decide) rfl [var g14 [.int .i64 e13.kind, .int .i64 e13.tick, .int .i64 e13.s, .int .i64 e13.id, .int .i64 e13.code, .int .i64 e13.a, .int .i64 e13.b] 47, row v9 47 7 ((Mono.of s l).map Ev.cells), var g1 [.int .i64 0, .int .i64 0, .int .i64 0, .int .i64 0, .int .i64 0, .int .i64 0, .int .i64 0, .int .i64 0, .int .i64 0, .int .i64 0, .int .i64 0, .int .i64 0] 23] rfl RoOk.nil) rfl ?_
   rintro _ _ ⟨_, ⟨rfl, rfl⟩, rfl⟩
   refine O.nil ?_
   refine J.blk ?_
   refine J.region ?_
   refine O.p (Pu.add' rfl rfl (by first | omega | (have h_ := Mono.of_len s l; omega))) rfl ?_
   refine O.p (Pu.move rfl) rfl ?_
   refine O.nil ?_
   exact J.lp ⟨k + 1, Rp.cnt r e13⟩ (show (k + 1) ≤ (Mono.of s l).length ∧ (Rp.cnt r e13) = Rp.cntF (Mono.of s l) (k + 1) from ⟨by omega, (by rw [Rp.cntF_next he13, ← hr])⟩) (show (Mono.of s l).length - (k + 1) < (Mono.of s l).length - k from (by first | omega | (have h_ := Mono.of_len s l; omega))) ⟨rfl, rfl, rfl, rfl, rfl, rfl, (congrArg (fun z => some (Value.int .i64 z)) (by first | rfl | omega : ((k : Int) + 1 : Int) = ((k + 1) : Int))), trivial⟩ [2, 0, 3] (by decide) rfl
  ·
   have p16 := of_decide_eq_false h11
   refine J.exit _ rfl ?_
   refine J.seq ?_
   refine J.region ?_
   refine O.q (Qt.ld rfl (Cel.var 1 rfl) (o := 0) (off := 0) rfl (Cut.agg [.int .i64 r.d0, .int .i64 r.d1, .int .i64 r.d2, .int .i64 r.d3, .int .i64 r.d4, .int .i64 r.d5, .int .i64 r.d6, .int .i64 r.d7, .int .i64 r.d8, .int .i64 r.d9, .int .i64 r.d10, .int .i64 r.d11] Tryz.isAgg23 Tryz.sizeOf23 rfl rfl)) rfl ?_
   refine O.l (Lo.call [.agg #[.int .i64 r.d0, .int .i64 r.d1, .int .i64 r.d2, .int .i64 r.d3, .int .i64 r.d4, .int .i64 r.d5, .int .i64 r.d6, .int .i64 r.d7, .int .i64 r.d8, .int .i64 r.d9, .int .i64 r.d10, .int .i64 r.d11]] (by exact Tryz.call31) rfl (rp_share r) [] [0, 1, 2] (by decide) rfl [row v9 47 7 ((Mono.of s l).map Ev.cells), var g8 [.int .i64 r.d0, .int .i64 r.d1, .int .i64 r.d2, .int .i64 r.d3, .int .i64 r.d4, .int .i64 r.d5, .int .i64 r.d6, .int .i64 r.d7, .int .i64 r.d8, .int .i64 r.d9, .int .i64 r.d10, .int .i64 r.d11] 23, var g1 [.int .i64 0, .int .i64 0, .int .i64 0, .int .i64 0, .int .i64 0, .int .i64 0, .int .i64 0, .int .i64 0, .int .i64 0, .int .i64 0, .int .i64 0, .int .i64 0] 23] rfl RoOk.nil) rfl ?_
   rintro _ _ ⟨_, ⟨rfl, rfl⟩, rfl⟩
   refine O.p (Pu.fieldAddr (off' := 11) Tryz.runUnderlying23 rfl Tryz.sizeOf3 rfl rfl rfl) rfl ?_
   refine O.l0 (Lo.store 1 (vs := [.int .i64 (Rp.share r.d4 r.d0)]) [.int .i64 r.d0, .int .i64 r.d1, .int .i64 r.d2, .int .i64 r.d3, .int .i64 r.d4, .int .i64 r.d5, .int .i64 r.d6, .int .i64 r.d7, .int .i64 r.d8, .int .i64 r.d9, .int .i64 r.d10, .int .i64 (Rp.share r.d4 r.d0)] rfl rfl rfl (by exact Tryz.sizeOf3) rfl rfl rfl rfl rfl) ?_
   rintro _ _ rfl
   refine O.nil ?_
   refine J.seq ?_
   refine J.region ?_
   refine O.q (Qt.ld rfl (Cel.var 1 rfl) (o := 0) (off := 0) rfl (Cut.agg [.int .i64 r.d0, .int .i64 r.d1, .int .i64 r.d2, .int .i64 r.d3, .int .i64 r.d4, .int .i64 r.d5, .int .i64 r.d6, .int .i64 r.d7, .int .i64 r.d8, .int .i64 r.d9, .int .i64 r.d10, .int .i64 (Rp.share r.d4 r.d0)] Tryz.isAgg23 Tryz.sizeOf23 rfl rfl)) rfl ?_
   refine O.l0 (Lo.store 2 (vs := [.int .i64 r.d0, .int .i64 r.d1, .int .i64 r.d2, .int .i64 r.d3, .int .i64 r.d4, .int .i64 r.d5, .int .i64 r.d6, .int .i64 r.d7, .int .i64 r.d8, .int .i64 r.d9, .int .i64 r.d10, .int .i64 (Rp.share r.d4 r.d0)]) [.int .i64 r.d0, .int .i64 r.d1, .int .i64 r.d2, .int .i64 r.d3, .int .i64 r.d4, .int .i64 r.d5, .int .i64 r.d6, .int .i64 r.d7, .int .i64 r.d8, .int .i64 r.d9, .int .i64 r.d10, .int .i64 (Rp.share r.d4 r.d0)] rfl rfl rfl (by exact Tryz.sizeOf23) rfl rfl rfl rfl rfl) ?_
   rintro _ _ rfl
   refine O.p (Pu.assign rfl) rfl ?_
   refine O.p (Pu.assign rfl) rfl ?_
   refine O.nil ?_
   exact J.ret (Fin.ret (rs := [.cell 4 23, .tmp 5, .tmp 6]) rfl [_, _, _] ⟨⟨_, _, 0, 0, _, rfl, (Cel.var 2 rfl), rfl, (Cut.agg [.int .i64 r.d0, .int .i64 r.d1, .int .i64 r.d2, .int .i64 r.d3, .int .i64 r.d4, .int .i64 r.d5, .int .i64 r.d6, .int .i64 r.d7, .int .i64 r.d8, .int .i64 r.d9, .int .i64 r.d10, .int .i64 (Rp.share r.d4 r.d0)] Tryz.isAgg23 Tryz.sizeOf23 rfl rfl)⟩, rfl, rfl, trivial⟩ [] (by decide) [] rfl ⟨(by rw [Rp.of_yes (Decidable.not_not.1 ‹_›), ← Rp.cntF_all (k := k) (by omega), ← hr]; rfl), rfl⟩)

end Go.Proofs.YtnkhmbbnabejhaaGreatDoor
