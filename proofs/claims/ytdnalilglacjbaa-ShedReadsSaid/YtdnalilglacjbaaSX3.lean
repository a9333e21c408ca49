/-
  Walks, printed by a program of mine (lk.py): each function meets its contract.
-/
import Derived.KernelRfl
import Derived.Test.YtdnalilglacjbaaSX2
namespace Go.Proofs.Ytdnalilglacjbaa
open Go Go.LK
set_option linter.unusedSimpArgs false

set_option maxRecDepth 100000 in
set_option maxHeartbeats 1000000 in
theorem sd_Told (s to ttl tick : Int) (lv : Value) (l : List Ev) (hl : l.length ≤ 1000) : Tri Try.prog 5 #[.int .i64 s, .int .i64 to, .int .i64 ttl, .int .i64 tick, lv] [rd lv 7 (l.map Ev.cells)] [] (fun v L' => v = .tuple #[.agg #[.int .i64 (((Sh.told s to ttl tick l).1).to), .int .i64 (((Sh.told s to ttl tick l).1).thr), .int .i64 (((Sh.told s to ttl tick l).1).ep), .int .i64 (((Sh.told s to ttl tick l).1).at_)], .bool (Sh.told s to ttl tick l).2] ∧ L' = []) := by
 refine Tri.enter (args := [.int .i64 s, .int .i64 to, .int .i64 ttl, .int .i64 tick, lv]) (body := _) 60 Try.func5 rfl Try.ntmps5 rfl ?_
 intro w0
 refine J.seq ?_
 refine J.region ?_
 refine O.l (Lo.alloc [.int .i64 0, .int .i64 0, .int .i64 0, .int .i64 0] (by exact Try.zeroValue30) rfl) rfl ?_
 rintro _ _ ⟨g1, rfl, rfl⟩
 refine O.p (Pu.assign rfl) rfl ?_
 refine O.nil ?_
 refine J.seq ?_
 refine by_bool (Sh.bad ttl) (fun h2 => ?_) (fun h2 => ?_)
 ·
  refine J.region ?_
  refine O.p (Pu.move rfl) rfl ?_
  refine O.l (Lo.call [.int .i64 ttl] (by exact Try.call15) rfl (tb_NewNo ttl h2) [] [0] (by decide) rfl [var g1 [.int .i64 0, .int .i64 0, .int .i64 0, .int .i64 0] 30] rfl RoOk.nil) rfl ?_
  rintro _ _ ⟨_, ⟨rfl, rfl⟩, rfl⟩
  refine O.p (Pu.move rfl) rfl ?_
  refine O.p (Pu.extract rfl rfl) rfl ?_
  refine O.p (Pu.extract rfl rfl) rfl ?_
  refine O.p (Pu.assign rfl) rfl ?_
  refine O.p (Pu.assign rfl) rfl ?_
  refine O.nil ?_
  refine J.seq ?_
  refine J.seq ?_
  refine J.region ?_
  refine O.p (Pu.move rfl) rfl ?_
  refine O.p (Pu.neq rfl rfl) rfl ?_
  refine O.nil ?_
  refine J.condT rfl rfl ?_
  refine J.seq ?_
  refine J.region ?_
  refine O.p (Pu.build [] [.int .i64 0, .int .i64 0, .int .i64 0, .int .i64 0] #[(0, 1), (1, 1), (2, 1), (3, 1)] Try.runUnderlying30 Try.zeroValue30 (places30 Try.underlying30) rfl (by kernel_rfl)) rfl ?_
  refine O.l0 (Lo.store 0 (vs := [.int .i64 0, .int .i64 0, .int .i64 0, .int .i64 0]) [.int .i64 0, .int .i64 0, .int .i64 0, .int .i64 0] rfl rfl rfl (by exact Try.sizeOf30) rfl rfl rfl rfl rfl) ?_
  rintro _ _ rfl
  refine O.p (Pu.assign rfl) rfl ?_
  refine O.nil ?_
  exact J.ret (Fin.ret (rs := [.cell 10 30, .tmp 11]) rfl [_, _] ⟨⟨_, _, 0, 0, _, rfl, (Cel.var 0 rfl), rfl, (Cut.agg [.int .i64 0, .int .i64 0, .int .i64 0, .int .i64 0] Try.isAgg30 Try.sizeOf30 rfl rfl)⟩, rfl, trivial⟩ [] (by decide) [] rfl ⟨(by rw [Sh.told_bad' ‹_›]; rfl), rfl⟩)
 ·
  refine J.region ?_
  refine O.p (Pu.move rfl) rfl ?_
  refine O.l (Lo.call [.int .i64 ttl] (by exact Try.call15) rfl (tb_New ttl h2) [] [0] (by decide) rfl [var g1 [.int .i64 0, .int .i64 0, .int .i64 0, .int .i64 0] 30] rfl RoOk.nil) rfl ?_
  rintro _ _ ⟨_, ⟨p4, rfl, rfl⟩, rfl⟩
  refine O.p (Pu.move rfl) rfl ?_
  refine O.p (Pu.extract rfl rfl) rfl ?_
  refine O.p (Pu.extract rfl rfl) rfl ?_
  refine O.p (Pu.assign rfl) rfl ?_
  refine O.p (Pu.assign rfl) rfl ?_
  refine O.nil ?_
  refine J.seq ?_
  refine J.seq ?_
  refine J.region ?_
  refine O.p (Pu.move rfl) rfl ?_
  refine O.p (Pu.neq rfl rfl) rfl ?_
  refine O.nil ?_
  refine J.condF rfl rfl ?_
  refine J.skip ?_
  refine J.seq ?_
  refine J.region ?_
  refine O.p (Pu.move rfl) rfl ?_
  refine O.p (Pu.makeFuncB [.pointer (some ⟨p4, 0, none⟩)] [] rfl rfl) rfl ?_
  refine O.p (Pu.assign rfl) rfl ?_
  refine O.nil ?_
  refine J.seq ?_
  refine J.seq ?_
  refine J.region ?_
  refine O.p (Pu.move rfl) rfl ?_
  refine O.p (Pu.move rfl) rfl ?_
  refine O.l (Lo.call [.int .i64 s, lv] (by exact Try.call17) rfl (trace_of s lv l (by omega)) [] [0, 1] (by decide) rfl [var p4 (Sh.tbC ttl Sh.nil) 73, var g1 [.int .i64 0, .int .i64 0, .int .i64 0, .int .i64 0] 30] rfl (RoOk.ro 0 rfl [] rfl RoOk.nil)) rfl ?_
  rintro v6 _ ⟨_, rfl, rfl⟩
  refine O.q (Qt.lenM Try.runUnderlying26 rfl (Src.row 0 rfl)) rfl ?_
  refine O.p (Pu.move rfl) rfl ?_
  refine O.nil ?_
  refine J.block ?_
  refine J.loop (X := Nat × Sh.Ts) (fun ξ => ξ.1 ≤ (Mono.of s l).length ∧ ξ.2 = Sh.tabK (Mono.of s l) ξ.1) (fun ξ => [(1, .int .i64 to), (3, .int .i64 tick), (10, .pointer (some ⟨g1, 0, none⟩)), (11, .bool false), (12, .pointer (some ⟨p4, 0, none⟩)), (14, .func (.func 16) #[.pointer (some ⟨p4, 0, none⟩)] #[]), (29, v6), (30, .int .i64 ((Mono.of s l).length : Int)), (31, .int .i64 (ξ.1 : Int))]) (fun ξ => [row v6 45 7 ((Mono.of s l).map Ev.cells), var p4 (Sh.tbC ttl ξ.2) 73, var g1 [.int .i64 0, .int .i64 0, .int .i64 0, .int .i64 0] 30]) (fun ξ => (Mono.of s l).length - ξ.1) ⟨0, Sh.nil⟩ (show 0 ≤ (Mono.of s l).length ∧ Sh.nil = Sh.tabK (Mono.of s l) 0 from ⟨by omega, rfl⟩) ⟨rfl, rfl, rfl, rfl, rfl, rfl, rfl, rfl, (congrArg (fun z => some (Value.int .i64 z)) (by first | rfl | omega : (0 : Int) = (0 : Int))), trivial⟩ [0, 1, 2] (by decide) rfl ?_
  rintro ⟨k, d⟩ hq7
  obtain ⟨hk, hst⟩ : k ≤ (Mono.of s l).length ∧ d = Sh.tabK (Mono.of s l) k := hq7
  show J _ _ [(1, .int .i64 to), (3, .int .i64 tick), (10, .pointer (some ⟨g1, 0, none⟩)), (11, .bool false), (12, .pointer (some ⟨p4, 0, none⟩)), (14, .func (.func 16) #[.pointer (some ⟨p4, 0, none⟩)] #[]), (29, v6), (30, .int .i64 ((Mono.of s l).length : Int)), (31, .int .i64 (k : Int))] [row v6 45 7 ((Mono.of s l).map Ev.cells), var p4 (Sh.tbC ttl d) 73, var g1 [.int .i64 0, .int .i64 0, .int .i64 0, .int .i64 0] 30]
  refine J.seq ?_
  refine J.region ?_
  refine O.p (Pu.lss rfl rfl) rfl ?_
  refine O.nil ?_
  refine J.seq ?_
  refine J.cond rfl (fun h8 => ?_) (fun h8 => ?_)
  ·
   have p9 := of_decide_eq_true h8
   refine J.skip ?_
   refine J.seq ?_
   refine J.block ?_
   refine J.seq ?_
   refine J.region ?_
   obtain ⟨e10, he10⟩ : ∃ x_, (Mono.of s l)[k]? = some x_ := ⟨_, List.getElem?_eq_getElem (by first | omega | (have h_ := Mono.of_len s l; omega))⟩
   refine O.q (Qt.idxM Try.runUnderlying26 Try.sizeOf45 rfl (Src.row 0 rfl) rfl (by first | omega | (have h_ := Mono.of_len s l; omega)) (by first | omega | (have h_ := Mono.of_len s l; omega))) rfl ?_
   refine O.q (Qt.ld rfl (Cel.eltM (Src.row 0 rfl) he10) (o := (voff v6 + k * 7)) (off := 0) (by omega) (Cut.agg [.int .i64 e10.kind, .int .i64 e10.tick, .int .i64 e10.s, .int .i64 e10.id, .int .i64 e10.code, .int .i64 e10.a, .int .i64 e10.b] Try.isAgg45 Try.sizeOf45 rfl rfl)) rfl ?_
   refine O.l (Lo.alloc [.int .i64 0, .int .i64 0, .int .i64 0, .int .i64 0, .int .i64 0, .int .i64 0, .int .i64 0] (by exact Try.zeroValue45) rfl) rfl ?_
   rintro _ _ ⟨g11, rfl, rfl⟩
   refine O.l0 (Lo.store 0 (vs := [.int .i64 e10.kind, .int .i64 e10.tick, .int .i64 e10.s, .int .i64 e10.id, .int .i64 e10.code, .int .i64 e10.a, .int .i64 e10.b]) [.int .i64 e10.kind, .int .i64 e10.tick, .int .i64 e10.s, .int .i64 e10.id, .int .i64 e10.code, .int .i64 e10.a, .int .i64 e10.b] rfl rfl rfl (by exact Try.sizeOf45) rfl rfl rfl rfl rfl) ?_
   rintro _ _ rfl
   refine O.nil ?_
   refine J.seq ?_
   refine J.region ?_
   refine O.p (Pu.fieldAddr (off' := 0) Try.runUnderlying45 rfl Try.sizeOf3 rfl rfl rfl) rfl ?_
   refine O.q (Qt.ld rfl (Cel.var 0 rfl) (o := 0) (off := 0) rfl (Cut.one Try.isAgg3 rfl)) rfl ?_
   refine O.nil ?_
   refine J.block ?_
   refine J.seq ?_
   refine J.region ?_
   refine O.p (Pu.eql rfl rfl) rfl ?_
   refine O.p (Pu.assign rfl) rfl ?_
   refine O.nil ?_
   refine J.cond rfl (fun h12 => ?_) (fun h12 => ?_)
   ·
    have p13 := of_decide_eq_true h12
    refine J.region ?_
    refine O.p (Pu.move rfl) rfl ?_
    refine O.l (Lo.call [.pointer (some ⟨p4, 0, none⟩)] (by exact Try.call18) rfl (tb_Clear p4 ttl d) [2] [0, 1, 3] (by decide) rfl [var g11 [.int .i64 e10.kind, .int .i64 e10.tick, .int .i64 e10.s, .int .i64 e10.id, .int .i64 e10.code, .int .i64 e10.a, .int .i64 e10.b] 45, row v6 45 7 ((Mono.of s l).map Ev.cells), var g1 [.int .i64 0, .int .i64 0, .int .i64 0, .int .i64 0] 30] rfl RoOk.nil) rfl ?_
    rintro _ _ ⟨_, ⟨rfl, rfl⟩, rfl⟩
    refine O.nil ?_
    refine J.blk ?_
    refine J.blk ?_
    refine J.region ?_
    refine O.p (Pu.add' rfl rfl (by first | omega | (have h_ := Mono.of_len s l; omega))) rfl ?_
    refine O.p (Pu.move rfl) rfl ?_
    refine O.nil ?_
    exact J.lp ⟨k + 1, Sh.nil⟩ (show (k + 1) ≤ (Mono.of s l).length ∧ Sh.nil = Sh.tabK (Mono.of s l) (k + 1) from ⟨by omega, (by rw [Sh.tabK_next he10]; exact (Sh.step_clear ‹_›).symm)⟩) (show (Mono.of s l).length - (k + 1) < (Mono.of s l).length - k from (by first | omega | (have h_ := Mono.of_len s l; omega))) ⟨rfl, rfl, rfl, rfl, rfl, rfl, rfl, rfl, (congrArg (fun z => some (Value.int .i64 z)) (by first | rfl | omega : ((k : Int) + 1 : Int) = ((k + 1) : Int))), trivial⟩ [2, 0, 3] (by decide) rfl
   ·
    have p15 := of_decide_eq_false h12
    refine J.seq ?_
    refine J.region ?_
    refine O.p (Pu.eql rfl rfl) rfl ?_
    refine O.p (Pu.assign rfl) rfl ?_
    refine O.nil ?_
    refine J.cond rfl (fun h16 => ?_) (fun h16 => ?_)
    ·
     have p17 := of_decide_eq_true h16
     refine J.region ?_
     refine O.p (Pu.move rfl) rfl ?_
     refine O.p (Pu.fieldAddr (off' := 5) Try.runUnderlying45 rfl Try.sizeOf3 rfl rfl rfl) rfl ?_
     refine O.q (Qt.ld rfl (Cel.var 0 rfl) (o := 0) (off := 5) rfl (Cut.one Try.isAgg3 rfl)) rfl ?_
     refine O.p (Pu.fieldAddr (off' := 6) Try.runUnderlying45 rfl Try.sizeOf3 rfl rfl rfl) rfl ?_
     refine O.q (Qt.ld rfl (Cel.var 0 rfl) (o := 0) (off := 6) rfl (Cut.one Try.isAgg3 rfl)) rfl ?_
     refine O.p (Pu.fieldAddr (off' := 3) Try.runUnderlying45 rfl Try.sizeOf3 rfl rfl rfl) rfl ?_
     refine O.q (Qt.ld rfl (Cel.var 0 rfl) (o := 0) (off := 3) rfl (Cut.one Try.isAgg3 rfl)) rfl ?_
     refine O.p (Pu.fieldAddr (off' := 1) Try.runUnderlying45 rfl Try.sizeOf3 rfl rfl rfl) rfl ?_
     refine O.q (Qt.ld rfl (Cel.var 0 rfl) (o := 0) (off := 1) rfl (Cut.one Try.isAgg3 rfl)) rfl ?_
     refine O.l (Lo.callB (first := [.pointer (some ⟨p4, 0, none⟩)]) (vs := [.int .i64 e10.a, .int .i64 e10.b, .int .i64 e10.id, .int .i64 e10.tick]) (caps := []) (by exact Try.call16) rfl rfl (tb_Learn p4 ttl d e10.a e10.b e10.id e10.tick) [2] [0, 1, 3] (by decide) rfl [var g11 [.int .i64 e10.kind, .int .i64 e10.tick, .int .i64 e10.s, .int .i64 e10.id, .int .i64 e10.code, .int .i64 e10.a, .int .i64 e10.b] 45, row v6 45 7 ((Mono.of s l).map Ev.cells), var g1 [.int .i64 0, .int .i64 0, .int .i64 0, .int .i64 0] 30] rfl RoOk.nil) rfl ?_
     rintro _ _ ⟨_, ⟨d18, hd19, rfl, rfl⟩, rfl⟩
     refine O.nil ?_
     refine J.blk ?_
     refine J.blk ?_
     refine J.region ?_
     refine O.p (Pu.add' rfl rfl (by first | omega | (have h_ := Mono.of_len s l; omega))) rfl ?_
     refine O.p (Pu.move rfl) rfl ?_
     refine O.nil ?_
     exact J.lp ⟨k + 1, d18⟩ (show (k + 1) ≤ (Mono.of s l).length ∧ d18 = Sh.tabK (Mono.of s l) (k + 1) from ⟨by omega, (by rw [hd19, Sh.tabK_next he10, ← hst]; exact (Sh.step_learn ‹_› ‹_›).symm)⟩) (show (Mono.of s l).length - (k + 1) < (Mono.of s l).length - k from (by first | omega | (have h_ := Mono.of_len s l; omega))) ⟨rfl, rfl, rfl, rfl, rfl, rfl, rfl, rfl, (congrArg (fun z => some (Value.int .i64 z)) (by first | rfl | omega : ((k : Int) + 1 : Int) = ((k + 1) : Int))), trivial⟩ [2, 0, 3] (by decide) rfl
    ·
     have p21 := of_decide_eq_false h16
     refine J.skip ?_
     refine J.blk ?_
     refine J.blk ?_
     refine J.region ?_
     refine O.p (Pu.add' rfl rfl (by first | omega | (have h_ := Mono.of_len s l; omega))) rfl ?_
     refine O.p (Pu.move rfl) rfl ?_
     refine O.nil ?_
     exact J.lp ⟨k + 1, d⟩ (show (k + 1) ≤ (Mono.of s l).length ∧ d = Sh.tabK (Mono.of s l) (k + 1) from ⟨by omega, (by rw [Sh.tabK_next he10, ← hst]; exact (Sh.step_none ‹_› ‹_›).symm)⟩) (show (Mono.of s l).length - (k + 1) < (Mono.of s l).length - k from (by first | omega | (have h_ := Mono.of_len s l; omega))) ⟨rfl, rfl, rfl, rfl, rfl, rfl, rfl, rfl, (congrArg (fun z => some (Value.int .i64 z)) (by first | rfl | omega : ((k : Int) + 1 : Int) = ((k + 1) : Int))), trivial⟩ [1, 2, 3] (by decide) rfl
  ·
   have p22 := of_decide_eq_false h8
   refine J.exit _ rfl ?_
   refine J.seq ?_
   refine J.region ?_
   refine O.p (Pu.move rfl) rfl ?_
   refine O.p (Pu.move rfl) rfl ?_
   refine O.p (Pu.move rfl) rfl ?_
   refine O.l (Lo.call [.pointer (some ⟨p4, 0, none⟩), .int .i64 to, .int .i64 tick] (by exact Try.call19) rfl (tb_Get p4 ttl d to tick) [] [0, 1, 2] (by decide) rfl [row v6 45 7 ((Mono.of s l).map Ev.cells), var p4 (Sh.tbC ttl d) 73, var g1 [.int .i64 0, .int .i64 0, .int .i64 0, .int .i64 0] 30] rfl (RoOk.of 1 rfl same_rd [] (by decide) rfl RoOk.nil)) rfl ?_
   rintro _ _ ⟨_, ⟨rfl, rfl⟩, rfl⟩
   refine O.p (Pu.extract rfl rfl) rfl ?_
   refine O.p (Pu.extract rfl rfl) rfl ?_
   refine O.l0 (Lo.store 2 (vs := [.int .i64 (((Sh.get d ttl to tick).1).to), .int .i64 (((Sh.get d ttl to tick).1).thr), .int .i64 (((Sh.get d ttl to tick).1).ep), .int .i64 (((Sh.get d ttl to tick).1).at_)]) [.int .i64 (((Sh.get d ttl to tick).1).to), .int .i64 (((Sh.get d ttl to tick).1).thr), .int .i64 (((Sh.get d ttl to tick).1).ep), .int .i64 (((Sh.get d ttl to tick).1).at_)] rfl rfl rfl (by exact Try.sizeOf30) rfl rfl rfl rfl rfl) ?_
   rintro _ _ rfl
   refine O.p (Pu.assign rfl) rfl ?_
   refine O.nil ?_
   exact J.ret (Fin.ret (rs := [.cell 10 30, .tmp 11]) rfl [_, _] ⟨⟨_, _, 0, 0, _, rfl, (Cel.var 2 rfl), rfl, (Cut.agg [.int .i64 (((Sh.get d ttl to tick).1).to), .int .i64 (((Sh.get d ttl to tick).1).thr), .int .i64 (((Sh.get d ttl to tick).1).ep), .int .i64 (((Sh.get d ttl to tick).1).at_)] Try.isAgg30 Try.sizeOf30 rfl rfl)⟩, rfl, trivial⟩ [] (by decide) [] rfl ⟨(by rw [Sh.told_good' ‹_›, ← Sh.tabK_all (k := k) (by omega), ← hst]; rfl), rfl⟩)

set_option maxRecDepth 100000 in
set_option maxHeartbeats 1000000 in
theorem r43_Told (s to ttl tick : Int) (lv : Value) (l : List Ev) (hl : l.length ≤ 1000) : Tri Try.prog 6 #[.int .i64 s, .int .i64 to, .int .i64 ttl, .int .i64 tick, lv] [rd lv 7 (l.map Ev.cells)] [] (fun v L' => v = .tuple #[.agg #[.int .i64 (((Sh.told s to ttl tick l).1).to), .int .i64 (((Sh.told s to ttl tick l).1).thr), .int .i64 (((Sh.told s to ttl tick l).1).ep), .int .i64 (((Sh.told s to ttl tick l).1).at_)], .bool (Sh.told s to ttl tick l).2] ∧ L' = []) := by
 refine Tri.enter (args := [.int .i64 s, .int .i64 to, .int .i64 ttl, .int .i64 tick, lv]) (body := _) 90 Try.func6 rfl Try.ntmps6 rfl ?_
 intro w0
 refine J.seq ?_
 refine J.region ?_
 refine O.l (Lo.alloc [.int .i64 0, .int .i64 0, .int .i64 0, .int .i64 0] (by exact Try.zeroValue30) rfl) rfl ?_
 rintro _ _ ⟨g1, rfl, rfl⟩
 refine O.p (Pu.assign rfl) rfl ?_
 refine O.nil ?_
 refine J.seq ?_
 refine J.seq ?_
 refine J.region ?_
 refine O.p (Pu.move rfl) rfl ?_
 refine O.p (Pu.lss rfl rfl) rfl ?_
 refine O.p (Pu.move rfl) rfl ?_
 refine by_bool (decide (ttl < 0)) (fun h2 => ?_) (fun h2 => ?_)
 ·
  have p3 := of_decide_eq_true h2
  refine O.gskip (t := 20) rfl rfl (no_bool (by rw [h2]; decide)) rfl rfl ?_
  refine O.gskip (t := 20) rfl rfl (no_bool (by rw [h2]; decide)) rfl rfl ?_
  refine O.p (Pu.pickT rfl h2 rfl) rfl ?_
  refine O.nil ?_
  refine J.condT rfl rfl ?_
  refine J.seq ?_
  refine J.region ?_
  refine O.p (Pu.build [] [.int .i64 0, .int .i64 0, .int .i64 0, .int .i64 0] #[(0, 1), (1, 1), (2, 1), (3, 1)] Try.runUnderlying30 Try.zeroValue30 (places30 Try.underlying30) rfl (by kernel_rfl)) rfl ?_
  refine O.l0 (Lo.store 0 (vs := [.int .i64 0, .int .i64 0, .int .i64 0, .int .i64 0]) [.int .i64 0, .int .i64 0, .int .i64 0, .int .i64 0] rfl rfl rfl (by exact Try.sizeOf30) rfl rfl rfl rfl rfl) ?_
  rintro _ _ rfl
  refine O.p (Pu.assign rfl) rfl ?_
  refine O.nil ?_
  exact J.ret (Fin.ret (rs := [.cell 10 30, .tmp 11]) rfl [_, _] ⟨⟨_, _, 0, 0, _, rfl, (Cel.var 0 rfl), rfl, (Cut.agg [.int .i64 0, .int .i64 0, .int .i64 0, .int .i64 0] Try.isAgg30 Try.sizeOf30 rfl rfl)⟩, rfl, trivial⟩ [] (by decide) [] rfl ⟨(by rw [Sh.told_bad (by omega)]; rfl), rfl⟩)
 ·
  have p4 := of_decide_eq_false h2
  refine O.gq (t := 20) rfl rfl h2 rfl (Pu.qt (Pu.move rfl)) rfl ?_
  refine O.gq (t := 20) rfl rfl h2 rfl (Pu.qt (Pu.gtr rfl rfl)) rfl ?_
  refine O.p (Pu.pickF rfl h2 rfl) rfl ?_
  refine O.nil ?_
  refine J.cond rfl (fun h5 => ?_) (fun h5 => ?_)
  ·
   have p6 := of_decide_eq_true h5
   refine J.seq ?_
   refine J.region ?_
   refine O.p (Pu.build [] [.int .i64 0, .int .i64 0, .int .i64 0, .int .i64 0] #[(0, 1), (1, 1), (2, 1), (3, 1)] Try.runUnderlying30 Try.zeroValue30 (places30 Try.underlying30) rfl (by kernel_rfl)) rfl ?_
   refine O.l0 (Lo.store 0 (vs := [.int .i64 0, .int .i64 0, .int .i64 0, .int .i64 0]) [.int .i64 0, .int .i64 0, .int .i64 0, .int .i64 0] rfl rfl rfl (by exact Try.sizeOf30) rfl rfl rfl rfl rfl) ?_
   rintro _ _ rfl
   refine O.p (Pu.assign rfl) rfl ?_
   refine O.nil ?_
   exact J.ret (Fin.ret (rs := [.cell 10 30, .tmp 11]) rfl [_, _] ⟨⟨_, _, 0, 0, _, rfl, (Cel.var 0 rfl), rfl, (Cut.agg [.int .i64 0, .int .i64 0, .int .i64 0, .int .i64 0] Try.isAgg30 Try.sizeOf30 rfl rfl)⟩, rfl, trivial⟩ [] (by decide) [] rfl ⟨(by rw [Sh.told_bad (by omega)]; rfl), rfl⟩)
  ·
   have p7 := of_decide_eq_false h5
   refine J.skip ?_
   refine J.seq ?_
   refine J.region ?_
   refine O.p (Pu.assign rfl) rfl ?_
   refine O.nil ?_
   refine J.seq ?_
   refine J.seq ?_
   refine J.region ?_
   refine O.p (Pu.assign rfl) rfl ?_
   refine O.nil ?_
   refine J.block ?_
   refine J.nilRow 30 4 ?_
   refine J.loop (X := Nat × Value × Sh.Ts) (fun ξ => ξ.1 ≤ l.length ∧ ξ.2.2 = Sh.tabS s l ξ.1) (fun ξ => [(0, .int .i64 s), (1, .int .i64 to), (2, .int .i64 ttl), (3, .int .i64 tick), (4, lv), (10, .pointer (some ⟨g1, 0, none⟩)), (11, .bool false), (12, ξ.2.1), (13, .int .i64 (ξ.1 : Int))]) (fun ξ => [row ξ.2.1 30 4 ((Sh.row ξ.2.2).map Kw.cells), var g1 [.int .i64 0, .int .i64 0, .int .i64 0, .int .i64 0] 30]) (fun ξ => l.length - ξ.1) ⟨0, Value.slice none 0 0, Sh.nil⟩ (show 0 ≤ l.length ∧ Sh.nil = Sh.tabS s l 0 from ⟨by omega, rfl⟩) ⟨rfl, rfl, rfl, rfl, rfl, rfl, rfl, rfl, (congrArg (fun z => some (Value.int .i64 z)) (by first | rfl | omega : (0 : Int) = (0 : Int))), trivial⟩ [0, 1] (by decide) rfl ?_
   rintro ⟨k, V, d⟩ hq8
   obtain ⟨hk, hst⟩ : k ≤ l.length ∧ d = Sh.tabS s l k := hq8
   show J _ _ [(0, .int .i64 s), (1, .int .i64 to), (2, .int .i64 ttl), (3, .int .i64 tick), (4, lv), (10, .pointer (some ⟨g1, 0, none⟩)), (11, .bool false), (12, V), (13, .int .i64 (k : Int))] [row V 30 4 ((Sh.row d).map Kw.cells), var g1 [.int .i64 0, .int .i64 0, .int .i64 0, .int .i64 0] 30]
   refine J.seq ?_
   refine J.seq ?_
   refine J.region ?_
   refine O.p (Pu.move rfl) rfl ?_
   refine O.p (Pu.move rfl) rfl ?_
   refine O.q (Qt.lenM Try.runUnderlying26 rfl (Src.ro 0 rfl)) rfl ?_
   refine O.p (Pu.lss rfl rfl) rfl ?_
   refine O.nil ?_
   refine J.cond rfl (fun h9 => ?_) (fun h9 => ?_)
   ·
    have p10 := of_decide_eq_true h9
    refine J.skip ?_
    refine J.seq ?_
    refine J.block ?_
    refine J.seq ?_
    refine J.seq ?_
    refine J.region ?_
    refine O.p (Pu.move rfl) rfl ?_
    refine O.p (Pu.move rfl) rfl ?_
    obtain ⟨e11, he11⟩ : ∃ x_, l[k]? = some x_ := ⟨_, List.getElem?_eq_getElem (by first | omega | (have h_ := (List.getElem?_eq_some_iff.1 hx15).1; omega))⟩
    refine O.q (Qt.idxM Try.runUnderlying26 Try.sizeOf45 rfl (Src.ro 0 rfl) rfl (by first | omega | (have h_ := (List.getElem?_eq_some_iff.1 hx15).1; omega)) (by first | omega | (have h_ := (List.getElem?_eq_some_iff.1 hx15).1; omega))) rfl ?_
    refine O.p (Pu.fieldAddr (off' := voff lv + ((k : Int)).toNat * 7 + 2) Try.runUnderlying45 rfl Try.sizeOf3 rfl rfl rfl) rfl ?_
    refine O.q (Qt.ld rfl (Cel.eltM (Src.ro 0 rfl) he11) (o := (voff lv + k * 7)) (off := 2) (by omega) (Cut.one Try.isAgg3 rfl)) rfl ?_
    refine O.p (Pu.move rfl) rfl ?_
    refine O.p (Pu.neq rfl rfl) rfl ?_
    refine O.nil ?_
    refine J.cond rfl (fun h12 => ?_) (fun h12 => ?_)
    ·
     have p13 := of_decide_eq_true h12
     refine J.exit _ rfl ?_
     refine J.region ?_
     refine O.p (Pu.move rfl) rfl ?_
     refine O.p (Pu.add' rfl rfl (by first | omega | (simp only [List.length_append, List.length_cons, List.length_nil, List.length_set]; omega))) rfl ?_
     refine O.p (Pu.assign rfl) rfl ?_
     refine O.nil ?_
     exact J.lp ⟨k + 1, V, d⟩ (show (k + 1) ≤ l.length ∧ d = Sh.tabS s l (k + 1) from ⟨by omega, (by rw [hst]; exact (Sh.tabS_no he11 ‹_›).symm)⟩) (show l.length - (k + 1) < l.length - k from (by first | omega | (have h_ := (List.getElem?_eq_some_iff.1 hx15).1; omega))) ⟨rfl, rfl, rfl, rfl, rfl, rfl, rfl, rfl, (congrArg (fun z => some (Value.int .i64 z)) (by first | rfl | omega : ((k : Int) + 1 : Int) = ((k + 1) : Int))), trivial⟩ [0, 1] (by decide) rfl
    ·
     have p14 := of_decide_eq_false h12
     refine J.skip ?_
     refine J.seq ?_
     refine J.seq ?_
     refine J.region ?_
     refine O.p (Pu.move rfl) rfl ?_
     refine O.p (Pu.move rfl) rfl ?_
     refine O.q (Qt.idxM Try.runUnderlying26 Try.sizeOf45 rfl (Src.ro 0 rfl) rfl (by first | omega | (have h_ := (List.getElem?_eq_some_iff.1 hx15).1; omega)) (by first | omega | (have h_ := (List.getElem?_eq_some_iff.1 hx15).1; omega))) rfl ?_
     refine O.p (Pu.fieldAddr (off' := voff lv + ((k : Int)).toNat * 7 + 0) Try.runUnderlying45 rfl Try.sizeOf3 rfl rfl rfl) rfl ?_
     refine O.q (Qt.ld rfl (Cel.eltM (Src.ro 0 rfl) he11) (o := (voff lv + k * 7)) (off := 0) (by omega) (Cut.one Try.isAgg3 rfl)) rfl ?_
     refine O.p (Pu.eql rfl rfl) rfl ?_
     refine O.nil ?_
     refine J.cond rfl (fun h15 => ?_) (fun h15 => ?_)
     ·
      have p16 := of_decide_eq_true h15
      refine J.region ?_
      refine O.p (Pu.assign rfl) rfl ?_
      refine O.nil ?_
      refine J.seq ?_
      refine J.region ?_
      refine O.p (Pu.move rfl) rfl ?_
      refine O.p (Pu.move rfl) rfl ?_
      refine O.q (Qt.idxM Try.runUnderlying26 Try.sizeOf45 rfl (Src.ro 0 rfl) rfl (by first | omega | (have h_ := (List.getElem?_eq_some_iff.1 hx15).1; omega)) (by first | omega | (have h_ := (List.getElem?_eq_some_iff.1 hx15).1; omega))) rfl ?_
      refine O.p (Pu.fieldAddr (off' := voff lv + ((k : Int)).toNat * 7 + 0) Try.runUnderlying45 rfl Try.sizeOf3 rfl rfl rfl) rfl ?_
      refine O.q (Qt.ld rfl (Cel.eltM (Src.ro 0 rfl) he11) (o := (voff lv + k * 7)) (off := 0) (by omega) (Cut.one Try.isAgg3 rfl)) rfl ?_
      refine O.p (Pu.eql rfl rfl) rfl ?_
      refine O.nil ?_
      refine J.cond rfl (fun h17 => ?_) (fun h17 => ?_)
      ·
       have p18 := of_decide_eq_true h17
       exfalso; omega
      ·
       have p19 := of_decide_eq_false h17
       refine J.skip ?_
       refine J.blk ?_
       refine J.nilRow 30 4 ?_
       refine J.region ?_
       refine O.p (Pu.move rfl) rfl ?_
       refine O.p (Pu.add' rfl rfl (by first | omega | (simp only [List.length_append, List.length_cons, List.length_nil, List.length_set]; omega))) rfl ?_
       refine O.p (Pu.assign rfl) rfl ?_
       refine O.nil ?_
       exact J.lp ⟨k + 1, Value.slice none 0 0, Sh.nil⟩ (show (k + 1) ≤ l.length ∧ Sh.nil = Sh.tabS s l (k + 1) from ⟨by omega, (by rw [Sh.tabS_yes he11 (Decidable.not_not.1 ‹_›)]; exact (Sh.step_clear ‹_›).symm)⟩) (show l.length - (k + 1) < l.length - k from (by first | omega | (have h_ := (List.getElem?_eq_some_iff.1 hx15).1; omega))) ⟨rfl, rfl, rfl, rfl, rfl, rfl, rfl, rfl, (congrArg (fun z => some (Value.int .i64 z)) (by first | rfl | omega : ((k : Int) + 1 : Int) = ((k + 1) : Int))), trivial⟩ [0, 2] (by decide) rfl
     ·
      have p20 := of_decide_eq_false h15
      refine J.skip ?_
      refine J.seq ?_
      refine J.region ?_
      refine O.p (Pu.move rfl) rfl ?_
      refine O.p (Pu.move rfl) rfl ?_
      refine O.q (Qt.idxM Try.runUnderlying26 Try.sizeOf45 rfl (Src.ro 0 rfl) rfl (by first | omega | (have h_ := (List.getElem?_eq_some_iff.1 hx15).1; omega)) (by first | omega | (have h_ := (List.getElem?_eq_some_iff.1 hx15).1; omega))) rfl ?_
      refine O.p (Pu.fieldAddr (off' := voff lv + ((k : Int)).toNat * 7 + 0) Try.runUnderlying45 rfl Try.sizeOf3 rfl rfl rfl) rfl ?_
      refine O.q (Qt.ld rfl (Cel.eltM (Src.ro 0 rfl) he11) (o := (voff lv + k * 7)) (off := 0) (by omega) (Cut.one Try.isAgg3 rfl)) rfl ?_
      refine O.p (Pu.eql rfl rfl) rfl ?_
      refine O.nil ?_
      refine J.cond rfl (fun h21 => ?_) (fun h21 => ?_)
      ·
       have p22 := of_decide_eq_true h21
       refine J.seq ?_
       refine J.drawMix [(0, false), (1, false), (2, false), (3, false), (4, false), (5, false), (6, false), (7, false), (8, false), (9, false), (10, false), (11, false), (12, false), (13, false), (14, false), (15, false), (16, false), (17, false), (18, false), (19, false), (20, false), (21, true), (22, false), (23, false), (24, false), (25, false), (26, false)] [] [] Try.mixed (by kernel_rfl) (by decide) rfl ?_
       refine Mx.p rfl (Pu.move rfl) rfl ?_
       refine Mx.p rfl (Pu.move rfl) rfl ?_
       refine Mx.p rfl (Pu.move rfl) rfl ?_
       refine Mx.q rfl (Qt.idxM Try.runUnderlying26 Try.sizeOf45 rfl (Src.ro 0 rfl) rfl (by first | omega | (have h_ := (List.getElem?_eq_some_iff.1 hx15).1; omega)) (by first | omega | (have h_ := (List.getElem?_eq_some_iff.1 hx15).1; omega))) rfl ?_
       refine Mx.p rfl (Pu.fieldAddr (off' := voff lv + ((k : Int)).toNat * 7 + 5) Try.runUnderlying45 rfl Try.sizeOf3 rfl rfl rfl) rfl ?_
       refine Mx.q rfl (Qt.ld rfl (Cel.eltM (Src.ro 0 rfl) he11) (o := (voff lv + k * 7)) (off := 5) (by omega) (Cut.one Try.isAgg3 rfl)) rfl ?_
       refine Mx.p rfl (Pu.move rfl) rfl ?_
       refine Mx.p rfl (Pu.move rfl) rfl ?_
       refine Mx.q rfl (Qt.idxM Try.runUnderlying26 Try.sizeOf45 rfl (Src.ro 0 rfl) rfl (by first | omega | (have h_ := (List.getElem?_eq_some_iff.1 hx15).1; omega)) (by first | omega | (have h_ := (List.getElem?_eq_some_iff.1 hx15).1; omega))) rfl ?_
       refine Mx.p rfl (Pu.fieldAddr (off' := voff lv + ((k : Int)).toNat * 7 + 6) Try.runUnderlying45 rfl Try.sizeOf3 rfl rfl rfl) rfl ?_
       refine Mx.q rfl (Qt.ld rfl (Cel.eltM (Src.ro 0 rfl) he11) (o := (voff lv + k * 7)) (off := 6) (by omega) (Cut.one Try.isAgg3 rfl)) rfl ?_
       refine Mx.p rfl (Pu.move rfl) rfl ?_
       refine Mx.p rfl (Pu.move rfl) rfl ?_
       refine Mx.q rfl (Qt.idxM Try.runUnderlying26 Try.sizeOf45 rfl (Src.ro 0 rfl) rfl (by first | omega | (have h_ := (List.getElem?_eq_some_iff.1 hx15).1; omega)) (by first | omega | (have h_ := (List.getElem?_eq_some_iff.1 hx15).1; omega))) rfl ?_
       refine Mx.p rfl (Pu.fieldAddr (off' := voff lv + ((k : Int)).toNat * 7 + 3) Try.runUnderlying45 rfl Try.sizeOf3 rfl rfl rfl) rfl ?_
       refine Mx.q rfl (Qt.ld rfl (Cel.eltM (Src.ro 0 rfl) he11) (o := (voff lv + k * 7)) (off := 3) (by omega) (Cut.one Try.isAgg3 rfl)) rfl ?_
       refine Mx.p rfl (Pu.move rfl) rfl ?_
       refine Mx.p rfl (Pu.move rfl) rfl ?_
       refine Mx.q rfl (Qt.idxM Try.runUnderlying26 Try.sizeOf45 rfl (Src.ro 0 rfl) rfl (by first | omega | (have h_ := (List.getElem?_eq_some_iff.1 hx15).1; omega)) (by first | omega | (have h_ := (List.getElem?_eq_some_iff.1 hx15).1; omega))) rfl ?_
       refine Mx.p rfl (Pu.fieldAddr (off' := voff lv + ((k : Int)).toNat * 7 + 1) Try.runUnderlying45 rfl Try.sizeOf3 rfl rfl rfl) rfl ?_
       refine Mx.q rfl (Qt.ld rfl (Cel.eltM (Src.ro 0 rfl) he11) (o := (voff lv + k * 7)) (off := 1) (by omega) (Cut.one Try.isAgg3 rfl)) rfl ?_
       refine Mx.l rfl (Lo.call [V, .int .i64 e11.a, .int .i64 e11.b, .int .i64 e11.id, .int .i64 e11.tick] (by exact Try.call20) rfl (r21_Learn V d e11.a e11.b e11.id e11.tick (by rw [hst]; exact Sh.tabS_inv)) [0] [1] (by decide) rfl [var g1 [.int .i64 0, .int .i64 0, .int .i64 0, .int .i64 0] 30] rfl RoOk.nil) rfl ?_
       rintro _ _ ⟨_, ⟨V23, rfl, rfl⟩, rfl⟩
       refine MxK.go [] [] [] (by decide) rfl (by decide) rfl ?_
       refine Mx.p rfl (Pu.move rfl) rfl ?_
       refine Mx.p rfl (Pu.extract rfl rfl) rfl ?_
       refine Mx.p rfl (Pu.extract rfl rfl) rfl ?_
       refine Mx.p rfl (Pu.assign rfl) rfl ?_
       refine Mx.p rfl (Pu.assign rfl) rfl ?_
       refine Mx.nil ?_
       refine J.region ?_
       refine O.p (Pu.move rfl) rfl ?_
       refine O.p (Pu.assign rfl) rfl ?_
       refine O.nil ?_
       refine J.blk ?_
       refine J.region ?_
       refine O.p (Pu.move rfl) rfl ?_
       refine O.p (Pu.add' rfl rfl (by first | omega | (simp only [List.length_append, List.length_cons, List.length_nil, List.length_set]; omega))) rfl ?_
       refine O.p (Pu.assign rfl) rfl ?_
       refine O.nil ?_
       exact J.lp ⟨k + 1, V23, (Sh.lrn d e11.a e11.b e11.id e11.tick).1⟩ (show (k + 1) ≤ l.length ∧ ((Sh.lrn d e11.a e11.b e11.id e11.tick).1) = Sh.tabS s l (k + 1) from ⟨by omega, (by rw [Sh.tabS_yes he11 (Decidable.not_not.1 ‹_›), ← hst]; exact (Sh.step_learn ‹_› ‹_›).symm)⟩) (show l.length - (k + 1) < l.length - k from (by first | omega | (have h_ := (List.getElem?_eq_some_iff.1 hx15).1; omega))) ⟨rfl, rfl, rfl, rfl, rfl, rfl, rfl, rfl, (congrArg (fun z => some (Value.int .i64 z)) (by first | rfl | omega : ((k : Int) + 1 : Int) = ((k + 1) : Int))), trivial⟩ [0, 1] (by decide) rfl
      ·
       have p25 := of_decide_eq_false h21
       refine J.skip ?_
       refine J.blk ?_
       refine J.region ?_
       refine O.p (Pu.move rfl) rfl ?_
       refine O.p (Pu.add' rfl rfl (by first | omega | (simp only [List.length_append, List.length_cons, List.length_nil, List.length_set]; omega))) rfl ?_
       refine O.p (Pu.assign rfl) rfl ?_
       refine O.nil ?_
       exact J.lp ⟨k + 1, V, d⟩ (show (k + 1) ≤ l.length ∧ d = Sh.tabS s l (k + 1) from ⟨by omega, (by rw [Sh.tabS_yes he11 (Decidable.not_not.1 ‹_›), ← hst]; exact (Sh.step_none ‹_› ‹_›).symm)⟩) (show l.length - (k + 1) < l.length - k from (by first | omega | (have h_ := (List.getElem?_eq_some_iff.1 hx15).1; omega))) ⟨rfl, rfl, rfl, rfl, rfl, rfl, rfl, rfl, (congrArg (fun z => some (Value.int .i64 z)) (by first | rfl | omega : ((k : Int) + 1 : Int) = ((k + 1) : Int))), trivial⟩ [0, 1] (by decide) rfl
   ·
    have p26 := of_decide_eq_false h9
    refine J.exit _ rfl ?_
    refine J.seq ?_
    refine J.region ?_
    refine O.p (Pu.move rfl) rfl ?_
    refine O.p (Pu.move rfl) rfl ?_
    refine O.p (Pu.move rfl) rfl ?_
    refine O.l (Lo.call [V, .int .i64 ttl, .int .i64 tick] (by exact Try.call21) rfl (r21_All V (Sh.row d) ttl tick (by have h_ := Sh.row_len d; have h2_ : (Sh.all d ttl tick).length ≤ (Sh.row d).length := List.length_filter_le _ _; omega)) [] [0, 1] (by decide) rfl [row V 30 4 ((Sh.row d).map Kw.cells), var g1 [.int .i64 0, .int .i64 0, .int .i64 0, .int .i64 0] 30] rfl (RoOk.of 0 rfl row_rd [] (by decide) rfl RoOk.nil)) rfl ?_
    rintro v27 _ ⟨_, rfl, rfl⟩
    refine O.p (Pu.assign rfl) rfl ?_
    refine O.nil ?_
    refine J.seq ?_
    refine J.region ?_
    refine O.p (Pu.move rfl) rfl ?_
    refine O.p (Pu.move rfl) rfl ?_
    refine O.l (Lo.call [v27, .int .i64 to] (by exact Try.call22) rfl (r21_Find v27 (Sh.all d ttl tick) to (by have h_ := Sh.row_len d; have h2_ : (Sh.all d ttl tick).length ≤ (Sh.row d).length := List.length_filter_le _ _; omega)) [] [0, 1, 2] (by decide) rfl [row v27 30 4 ((Sh.all d ttl tick).map Kw.cells), row V 30 4 ((Sh.row d).map Kw.cells), var g1 [.int .i64 0, .int .i64 0, .int .i64 0, .int .i64 0] 30] rfl (RoOk.of 0 rfl row_rd [] (by decide) rfl RoOk.nil)) rfl ?_
    rintro _ _ ⟨_, ⟨rfl, rfl⟩, rfl⟩
    refine O.p (Pu.assign rfl) rfl ?_
    refine O.nil ?_
    refine J.seq ?_
    refine J.seq ?_
    rcases Sh.get_row (to := to) (ttl := ttl) (now := tick) (show Sh.Inv d from by rw [hst]; exact Sh.tabS_inv) with ⟨hf15, hd15⟩ | ⟨i15, x15, hf15, hx15, hd15⟩
    ·
     rw [hf15]
     refine J.region ?_
     refine O.p (Pu.move rfl) rfl ?_
     refine O.p (Pu.lss rfl rfl) rfl ?_
     refine O.nil ?_
     refine J.condT rfl rfl ?_
     refine J.seq ?_
     refine J.region ?_
     refine O.p (Pu.build [] [.int .i64 0, .int .i64 0, .int .i64 0, .int .i64 0] #[(0, 1), (1, 1), (2, 1), (3, 1)] Try.runUnderlying30 Try.zeroValue30 (places30 Try.underlying30) rfl (by kernel_rfl)) rfl ?_
     refine O.l0 (Lo.store 2 (vs := [.int .i64 0, .int .i64 0, .int .i64 0, .int .i64 0]) [.int .i64 0, .int .i64 0, .int .i64 0, .int .i64 0] rfl rfl rfl (by exact Try.sizeOf30) rfl rfl rfl rfl rfl) ?_
     rintro _ _ rfl
     refine O.p (Pu.assign rfl) rfl ?_
     refine O.nil ?_
     exact J.ret (Fin.ret (rs := [.cell 10 30, .tmp 11]) rfl [_, _] ⟨⟨_, _, 0, 0, _, rfl, (Cel.var 2 rfl), rfl, (Cut.agg [.int .i64 0, .int .i64 0, .int .i64 0, .int .i64 0] Try.isAgg30 Try.sizeOf30 rfl rfl)⟩, rfl, trivial⟩ [] (by decide) [] rfl ⟨(by rw [Sh.told_good (by omega), ← Sh.tabS_all (k := k) (by omega), ← hst, hd15]; rfl), rfl⟩)
    ·
     rw [hf15]
     refine J.region ?_
     refine O.p (Pu.move rfl) rfl ?_
     refine O.p (Pu.lss rfl rfl) rfl ?_
     refine O.nil ?_
     refine J.condF rfl (decide_eq_false (by omega)) ?_
     refine J.skip ?_
     refine J.seq ?_
     refine J.region ?_
     refine O.p (Pu.move rfl) rfl ?_
     refine O.p (Pu.move rfl) rfl ?_
     refine O.q (Qt.idxM Try.runUnderlying38 Try.sizeOf30 rfl (Src.row 0 rfl) rfl (by first | omega | (have h_ := (List.getElem?_eq_some_iff.1 hx15).1; omega)) (by first | omega | (have h_ := (List.getElem?_eq_some_iff.1 hx15).1; omega))) rfl ?_
     refine O.q (Qt.ld rfl (Cel.eltM (Src.row 0 rfl) hx15) (o := (voff v27 + i15 * 4)) (off := 0) (by omega) (Cut.agg [.int .i64 x15.to, .int .i64 x15.thr, .int .i64 x15.ep, .int .i64 x15.at_] Try.isAgg30 Try.sizeOf30 rfl rfl)) rfl ?_
     refine O.l0 (Lo.store 2 (vs := [.int .i64 x15.to, .int .i64 x15.thr, .int .i64 x15.ep, .int .i64 x15.at_]) [.int .i64 x15.to, .int .i64 x15.thr, .int .i64 x15.ep, .int .i64 x15.at_] rfl rfl rfl (by exact Try.sizeOf30) rfl rfl rfl rfl rfl) ?_
     rintro _ _ rfl
     refine O.p (Pu.assign rfl) rfl ?_
     refine O.nil ?_
     exact J.ret (Fin.ret (rs := [.cell 10 30, .tmp 11]) rfl [_, _] ⟨⟨_, _, 0, 0, _, rfl, (Cel.var 2 rfl), rfl, (Cut.agg [.int .i64 x15.to, .int .i64 x15.thr, .int .i64 x15.ep, .int .i64 x15.at_] Try.isAgg30 Try.sizeOf30 rfl rfl)⟩, rfl, trivial⟩ [] (by decide) [] rfl ⟨(by rw [Sh.told_good (by omega), ← Sh.tabS_all (k := k) (by omega), ← hst, hd15]; rfl), rfl⟩)

end Go.Proofs.Ytdnalilglacjbaa
