/-
  Walks, printed by a program of mine (lk.py): each function meets its contract.
-/
import Derived.KernelRfl
import Derived.Test.YtdnalilglacjbaaSX8
import Derived.Test.YtdnalilglacjbaaLk36
namespace Go.Proofs.Ytdnalilglacjbaa
open Go Go.LK
set_option linter.unusedSimpArgs false

set_option maxRecDepth 100000 in
set_option maxHeartbeats 2000000 in
theorem l43_ShedReads (b c r key : Int) (sv : Value) (SS : List Svc) (lv : Value) (l : List Ev) (m0 m1 m2 m3 : Int) : Tri Try.prog 3 #[.agg #[.int .i64 b, .int .i64 c, .int .i64 r, .int .u64 key, sv], lv, .agg #[.int .i64 m0, .int .i64 m1, .int .i64 m2, .int .i64 m3]] [rd sv 14 (SS.map Svc.cells), rd lv 7 (l.map Ev.cells)] [] (fun v L' => v = .bool true ∧ L' = []) := by
 refine Tri.enter (args := [.agg #[.int .i64 b, .int .i64 c, .int .i64 r, .int .u64 key, sv], lv, .agg #[.int .i64 m0, .int .i64 m1, .int .i64 m2, .int .i64 m3]]) (body := _) 118 Try.func3 rfl Try.ntmps3 rfl ?_
 intro w0
 refine J.seq ?_
 refine J.region ?_
 refine O.one (Src.ro 0 rfl) (fun hV2 => ?_)
 refine O.l (Lo.box [.int .i64 b, .int .i64 c, .int .i64 r, .int .u64 key, sv] rfl rfl) rfl ?_
 rintro _ _ ⟨g1, rfl, rfl⟩
 refine O.l (Lo.box [.int .i64 m0, .int .i64 m1, .int .i64 m2, .int .i64 m3] rfl rfl) rfl ?_
 rintro _ _ ⟨g3, rfl, rfl⟩
 refine O.p (Pu.assign rfl) rfl ?_
 refine O.nil ?_
 refine J.seq ?_
 refine J.seq ?_
 refine J.region ?_
 refine O.p (Pu.move rfl) rfl ?_
 refine O.q (Qt.lenM Try.runUnderlying26 rfl (Src.ro 1 rfl)) rfl ?_
 refine O.p (Pu.gtr rfl rfl) rfl ?_
 refine O.p (Pu.move rfl) rfl ?_
 refine by_bool (decide (80 < (l.length : Int))) (fun h4 => ?_) (fun h4 => ?_)
 ·
  have p5 := of_decide_eq_true h4
  refine O.gskip (t := 18) rfl rfl (no_bool (by rw [h4]; decide)) rfl rfl ?_
  refine O.gskip (t := 18) rfl rfl (no_bool (by rw [h4]; decide)) rfl rfl ?_
  refine O.gskip (t := 18) rfl rfl (no_bool (by rw [h4]; decide)) rfl rfl ?_
  refine O.gskip (t := 18) rfl rfl (no_bool (by rw [h4]; decide)) rfl rfl ?_
  refine O.p (Pu.pickT rfl h4 rfl) rfl ?_
  refine O.nil ?_
  refine J.condT rfl rfl ?_
  refine J.seq ?_
  refine J.region ?_
  refine O.l (Lo.call [] (by exact Try.call4) rfl l43_awake [] [0, 1] (by decide) rfl [var g3 [.int .i64 m0, .int .i64 m1, .int .i64 m2, .int .i64 m3] 27, var g1 [.int .i64 b, .int .i64 c, .int .i64 r, .int .u64 key, sv] 25] rfl RoOk.nil) rfl ?_
  rintro _ _ ⟨_, ⟨rfl, rfl⟩, rfl⟩
  refine O.p (Pu.assign rfl) rfl ?_
  refine O.nil ?_
  exact J.ret (Fin.ret (rs := [.tmp 6]) rfl [_] ⟨rfl, trivial⟩ [] (by decide) [] rfl ⟨rfl, rfl⟩)
 ·
  have p7 := of_decide_eq_false h4
  refine O.gq (t := 18) rfl rfl h4 rfl (Pu.qt (Pu.fieldAddr (off' := 4) Try.runUnderlying25 rfl Try.sizeOf23 rfl rfl rfl)) rfl ?_
  refine O.gq (t := 18) rfl rfl h4 rfl (Qt.ld rfl (Cel.var 1 rfl) (o := 0) (off := 4) rfl (Cut.one Try.isAgg23 rfl)) rfl ?_
  refine O.gq (t := 18) rfl rfl h4 rfl (Qt.lenM Try.runUnderlying23 rfl (Src.ro 0 rfl)) rfl ?_
  refine O.gq (t := 18) rfl rfl h4 rfl (Pu.qt (Pu.gtr rfl rfl)) rfl ?_
  refine O.p (Pu.pickF rfl h4 rfl) rfl ?_
  refine O.nil ?_
  refine J.cond rfl (fun h8 => ?_) (fun h8 => ?_)
  ·
   have p9 := of_decide_eq_true h8
   refine J.seq ?_
   refine J.region ?_
   refine O.l (Lo.call [] (by exact Try.call4) rfl l43_awake [] [0, 1] (by decide) rfl [var g3 [.int .i64 m0, .int .i64 m1, .int .i64 m2, .int .i64 m3] 27, var g1 [.int .i64 b, .int .i64 c, .int .i64 r, .int .u64 key, sv] 25] rfl RoOk.nil) rfl ?_
   rintro _ _ ⟨_, ⟨rfl, rfl⟩, rfl⟩
   refine O.p (Pu.assign rfl) rfl ?_
   refine O.nil ?_
   exact J.ret (Fin.ret (rs := [.tmp 6]) rfl [_] ⟨rfl, trivial⟩ [] (by decide) [] rfl ⟨rfl, rfl⟩)
  ·
   have p11 := of_decide_eq_false h8
   refine J.skip ?_
   refine J.seq ?_
   refine J.region ?_
   refine O.p (Pu.fieldAddr (off' := 0) Try.runUnderlying25 rfl Try.sizeOf3 rfl rfl rfl) rfl ?_
   refine O.q (Qt.ld rfl (Cel.var 1 rfl) (o := 0) (off := 0) rfl (Cut.one Try.isAgg3 rfl)) rfl ?_
   refine O.p (Pu.and7 rfl rfl) rfl ?_
   refine O.p (Pu.fieldAddr (off' := 0) Try.runUnderlying25 rfl Try.sizeOf3 rfl rfl rfl) rfl ?_
   refine O.l0 (Lo.store 1 (vs := [.int .i64 (b % 8)]) [.int .i64 (b % 8), .int .i64 c, .int .i64 r, .int .u64 key, sv] rfl rfl rfl (by exact Try.sizeOf3) rfl rfl rfl rfl rfl) ?_
   rintro _ _ rfl
   refine O.nil ?_
   refine J.seq ?_
   refine J.region ?_
   refine O.p (Pu.fieldAddr (off' := 1) Try.runUnderlying25 rfl Try.sizeOf3 rfl rfl rfl) rfl ?_
   refine O.q (Qt.ld rfl (Cel.var 1 rfl) (o := 0) (off := 1) rfl (Cut.one Try.isAgg3 rfl)) rfl ?_
   refine O.p (Pu.and15 rfl rfl) rfl ?_
   refine O.p (Pu.fieldAddr (off' := 1) Try.runUnderlying25 rfl Try.sizeOf3 rfl rfl rfl) rfl ?_
   refine O.l0 (Lo.store 1 (vs := [.int .i64 (c % 16)]) [.int .i64 (b % 8), .int .i64 (c % 16), .int .i64 r, .int .u64 key, sv] rfl rfl rfl (by exact Try.sizeOf3) rfl rfl rfl rfl rfl) ?_
   rintro _ _ rfl
   refine O.nil ?_
   refine J.seq ?_
   refine J.region ?_
   refine O.p (Pu.indexAddrK 0 Try.runUnderlying27 Try.sizeOf3 rfl rfl (by decide) (by decide) rfl) rfl ?_
   refine O.q (Qt.ld rfl (Cel.var 0 rfl) (o := 0) (off := 0) rfl (Cut.one Try.isAgg3 rfl)) rfl ?_
   refine O.p (Pu.indexAddrK 1 Try.runUnderlying27 Try.sizeOf3 rfl rfl (by decide) (by decide) rfl) rfl ?_
   refine O.q (Qt.ld rfl (Cel.var 0 rfl) (o := 0) (off := 1) rfl (Cut.one Try.isAgg3 rfl)) rfl ?_
   refine O.p (Pu.indexAddrK 2 Try.runUnderlying27 Try.sizeOf3 rfl rfl (by decide) (by decide) rfl) rfl ?_
   refine O.q (Qt.ld rfl (Cel.var 0 rfl) (o := 0) (off := 2) rfl (Cut.one Try.isAgg3 rfl)) rfl ?_
   refine O.p (Pu.indexAddrK 3 Try.runUnderlying27 Try.sizeOf3 rfl rfl (by decide) (by decide) rfl) rfl ?_
   refine O.q (Qt.ld rfl (Cel.var 0 rfl) (o := 0) (off := 3) rfl (Cut.one Try.isAgg3 rfl)) rfl ?_
   refine O.p (Pu.move rfl) rfl ?_
   refine O.l (Lo.call [.int .i64 m0, .int .i64 m1, .int .i64 m2, .int .i64 m3, lv] (by exact Try.call5) rfl (sd_Told m0 m1 m2 m3 lv l (by omega)) [] [0, 1] (by decide) rfl [var g3 [.int .i64 m0, .int .i64 m1, .int .i64 m2, .int .i64 m3] 27, var g1 [.int .i64 (b % 8), .int .i64 (c % 16), .int .i64 r, .int .u64 key, sv] 25] rfl (RoOk.ro 1 rfl [] rfl RoOk.nil)) rfl ?_
   rintro _ _ ⟨_, ⟨rfl, rfl⟩, rfl⟩
   refine O.p (Pu.move rfl) rfl ?_
   refine O.p (Pu.extract rfl rfl) rfl ?_
   refine O.p (Pu.extract rfl rfl) rfl ?_
   refine O.l (Lo.alloc [.int .i64 0, .int .i64 0, .int .i64 0, .int .i64 0] (by exact Try.zeroValue30) rfl) rfl ?_
   rintro _ _ ⟨g13, rfl, rfl⟩
   refine O.l0 (Lo.store 0 (vs := [.int .i64 (((Sh.told m0 m1 m2 m3 l).1).to), .int .i64 (((Sh.told m0 m1 m2 m3 l).1).thr), .int .i64 (((Sh.told m0 m1 m2 m3 l).1).ep), .int .i64 (((Sh.told m0 m1 m2 m3 l).1).at_)]) [.int .i64 (((Sh.told m0 m1 m2 m3 l).1).to), .int .i64 (((Sh.told m0 m1 m2 m3 l).1).thr), .int .i64 (((Sh.told m0 m1 m2 m3 l).1).ep), .int .i64 (((Sh.told m0 m1 m2 m3 l).1).at_)] rfl rfl rfl (by exact Try.sizeOf30) rfl rfl rfl rfl rfl) ?_
   rintro _ _ rfl
   refine O.p (Pu.assign rfl) rfl ?_
   refine O.nil ?_
   refine J.seq ?_
   refine J.region ?_
   refine O.p (Pu.indexAddrK 0 Try.runUnderlying27 Try.sizeOf3 rfl rfl (by decide) (by decide) rfl) rfl ?_
   refine O.q (Qt.ld rfl (Cel.var 1 rfl) (o := 0) (off := 0) rfl (Cut.one Try.isAgg3 rfl)) rfl ?_
   refine O.p (Pu.indexAddrK 1 Try.runUnderlying27 Try.sizeOf3 rfl rfl (by decide) (by decide) rfl) rfl ?_
   refine O.q (Qt.ld rfl (Cel.var 1 rfl) (o := 0) (off := 1) rfl (Cut.one Try.isAgg3 rfl)) rfl ?_
   refine O.p (Pu.indexAddrK 2 Try.runUnderlying27 Try.sizeOf3 rfl rfl (by decide) (by decide) rfl) rfl ?_
   refine O.q (Qt.ld rfl (Cel.var 1 rfl) (o := 0) (off := 2) rfl (Cut.one Try.isAgg3 rfl)) rfl ?_
   refine O.p (Pu.indexAddrK 3 Try.runUnderlying27 Try.sizeOf3 rfl rfl (by decide) (by decide) rfl) rfl ?_
   refine O.q (Qt.ld rfl (Cel.var 1 rfl) (o := 0) (off := 3) rfl (Cut.one Try.isAgg3 rfl)) rfl ?_
   refine O.p (Pu.move rfl) rfl ?_
   refine O.l (Lo.call [.int .i64 m0, .int .i64 m1, .int .i64 m2, .int .i64 m3, lv] (by exact Try.call6) rfl (r43_Told m0 m1 m2 m3 lv l (by omega)) [] [0, 1, 2] (by decide) rfl [var g13 [.int .i64 (((Sh.told m0 m1 m2 m3 l).1).to), .int .i64 (((Sh.told m0 m1 m2 m3 l).1).thr), .int .i64 (((Sh.told m0 m1 m2 m3 l).1).ep), .int .i64 (((Sh.told m0 m1 m2 m3 l).1).at_)] 30, var g3 [.int .i64 m0, .int .i64 m1, .int .i64 m2, .int .i64 m3] 27, var g1 [.int .i64 (b % 8), .int .i64 (c % 16), .int .i64 r, .int .u64 key, sv] 25] rfl (RoOk.ro 1 rfl [] rfl RoOk.nil)) rfl ?_
   rintro _ _ ⟨_, ⟨rfl, rfl⟩, rfl⟩
   refine O.p (Pu.move rfl) rfl ?_
   refine O.p (Pu.extract rfl rfl) rfl ?_
   refine O.p (Pu.extract rfl rfl) rfl ?_
   refine O.l (Lo.alloc [.int .i64 0, .int .i64 0, .int .i64 0, .int .i64 0] (by exact Try.zeroValue30) rfl) rfl ?_
   rintro _ _ ⟨g15, rfl, rfl⟩
   refine O.l0 (Lo.store 0 (vs := [.int .i64 (((Sh.told m0 m1 m2 m3 l).1).to), .int .i64 (((Sh.told m0 m1 m2 m3 l).1).thr), .int .i64 (((Sh.told m0 m1 m2 m3 l).1).ep), .int .i64 (((Sh.told m0 m1 m2 m3 l).1).at_)]) [.int .i64 (((Sh.told m0 m1 m2 m3 l).1).to), .int .i64 (((Sh.told m0 m1 m2 m3 l).1).thr), .int .i64 (((Sh.told m0 m1 m2 m3 l).1).ep), .int .i64 (((Sh.told m0 m1 m2 m3 l).1).at_)] rfl rfl rfl (by exact Try.sizeOf30) rfl rfl rfl rfl rfl) ?_
   rintro _ _ rfl
   refine O.p (Pu.assign rfl) rfl ?_
   refine O.nil ?_
   refine J.seq ?_
   refine J.region ?_
   refine O.q (Qt.ld rfl (Cel.var 3 rfl) (o := 0) (off := 0) rfl (Cut.agg [.int .i64 (b % 8), .int .i64 (c % 16), .int .i64 r, .int .u64 key, sv] Try.isAgg25 Try.sizeOf25 rfl rfl)) rfl ?_
   refine O.p (Pu.move rfl) rfl ?_
   refine O.l (Lo.call [.agg #[.int .i64 (b % 8), .int .i64 (c % 16), .int .i64 r, .int .u64 key, sv], lv] (by exact Try.call7) rfl (sd_Wrong (b % 8) (c % 16) r key sv SS lv l (by omega) (by omega) (by omega) (by omega)) [] [0, 1, 2, 3] (by decide) rfl [var g15 [.int .i64 (((Sh.told m0 m1 m2 m3 l).1).to), .int .i64 (((Sh.told m0 m1 m2 m3 l).1).thr), .int .i64 (((Sh.told m0 m1 m2 m3 l).1).ep), .int .i64 (((Sh.told m0 m1 m2 m3 l).1).at_)] 30, var g13 [.int .i64 (((Sh.told m0 m1 m2 m3 l).1).to), .int .i64 (((Sh.told m0 m1 m2 m3 l).1).thr), .int .i64 (((Sh.told m0 m1 m2 m3 l).1).ep), .int .i64 (((Sh.told m0 m1 m2 m3 l).1).at_)] 30, var g3 [.int .i64 m0, .int .i64 m1, .int .i64 m2, .int .i64 m3] 27, var g1 [.int .i64 (b % 8), .int .i64 (c % 16), .int .i64 r, .int .u64 key, sv] 25] rfl (RoOk.ro 0 rfl [] rfl (RoOk.ro 1 rfl [] rfl RoOk.nil))) rfl ?_
   rintro _ _ ⟨_, ⟨rfl, rfl⟩, rfl⟩
   refine O.p (Pu.move rfl) rfl ?_
   refine O.p (Pu.extract rfl rfl) rfl ?_
   refine O.p (Pu.extract rfl rfl) rfl ?_
   refine O.p (Pu.assign rfl) rfl ?_
   refine O.p (Pu.assign rfl) rfl ?_
   refine O.nil ?_
   refine J.seq ?_
   refine J.region ?_
   refine O.q (Qt.ld rfl (Cel.var 3 rfl) (o := 0) (off := 0) rfl (Cut.agg [.int .i64 (b % 8), .int .i64 (c % 16), .int .i64 r, .int .u64 key, sv] Try.isAgg25 Try.sizeOf25 rfl rfl)) rfl ?_
   refine O.p (Pu.move rfl) rfl ?_
   refine O.l (Lo.call [.agg #[.int .i64 (b % 8), .int .i64 (c % 16), .int .i64 r, .int .u64 key, sv], lv] (by exact Try.call8) rfl (r43_Wrong (b % 8) (c % 16) r key sv SS lv l (by omega) (by omega) (by omega) (by omega)) [] [0, 1, 2, 3] (by decide) rfl [var g15 [.int .i64 (((Sh.told m0 m1 m2 m3 l).1).to), .int .i64 (((Sh.told m0 m1 m2 m3 l).1).thr), .int .i64 (((Sh.told m0 m1 m2 m3 l).1).ep), .int .i64 (((Sh.told m0 m1 m2 m3 l).1).at_)] 30, var g13 [.int .i64 (((Sh.told m0 m1 m2 m3 l).1).to), .int .i64 (((Sh.told m0 m1 m2 m3 l).1).thr), .int .i64 (((Sh.told m0 m1 m2 m3 l).1).ep), .int .i64 (((Sh.told m0 m1 m2 m3 l).1).at_)] 30, var g3 [.int .i64 m0, .int .i64 m1, .int .i64 m2, .int .i64 m3] 27, var g1 [.int .i64 (b % 8), .int .i64 (c % 16), .int .i64 r, .int .u64 key, sv] 25] rfl (RoOk.ro 0 rfl [] rfl (RoOk.ro 1 rfl [] rfl RoOk.nil))) rfl ?_
   rintro _ _ ⟨_, ⟨rfl, rfl⟩, rfl⟩
   refine O.p (Pu.move rfl) rfl ?_
   refine O.p (Pu.extract rfl rfl) rfl ?_
   refine O.p (Pu.extract rfl rfl) rfl ?_
   refine O.p (Pu.assign rfl) rfl ?_
   refine O.p (Pu.assign rfl) rfl ?_
   refine O.nil ?_
   refine J.seq ?_
   refine J.drawMix [(0, false), (1, false), (2, false), (3, false), (4, false), (6, false), (7, false), (8, false), (9, false), (10, false), (5, true), (11, true), (12, false), (13, false), (14, false), (15, false), (16, false), (17, false), (18, false), (19, false), (20, false), (21, false), (22, false), (23, false), (24, false), (25, false), (26, false), (27, false), (28, false), (29, false), (30, false), (31, false), (32, false), (33, false), (34, false), (35, false), (36, false), (38, false), (39, false), (40, false), (37, true), (41, true), (42, false), (43, false), (44, false), (45, true), (46, false), (47, false)] [0, 1, 2] [var g15 [.int .i64 (((Sh.told m0 m1 m2 m3 l).1).to), .int .i64 (((Sh.told m0 m1 m2 m3 l).1).thr), .int .i64 (((Sh.told m0 m1 m2 m3 l).1).ep), .int .i64 (((Sh.told m0 m1 m2 m3 l).1).at_)] 30, var g13 [.int .i64 (((Sh.told m0 m1 m2 m3 l).1).to), .int .i64 (((Sh.told m0 m1 m2 m3 l).1).thr), .int .i64 (((Sh.told m0 m1 m2 m3 l).1).ep), .int .i64 (((Sh.told m0 m1 m2 m3 l).1).at_)] 30, var g3 [.int .i64 m0, .int .i64 m1, .int .i64 m2, .int .i64 m3] 27] Try.mixed (by kernel_rfl) (by decide) rfl ?_
   refine Mx.p rfl (Pu.indexAddrK 0 Try.runUnderlying27 Try.sizeOf3 rfl rfl (by decide) (by decide) rfl) rfl ?_
   refine Mx.q rfl (Qt.ld rfl (Cel.var 2 rfl) (o := 0) (off := 0) rfl (Cut.one Try.isAgg3 rfl)) rfl ?_
   refine Mx.p rfl (Pu.indexAddrK 1 Try.runUnderlying27 Try.sizeOf3 rfl rfl (by decide) (by decide) rfl) rfl ?_
   refine Mx.q rfl (Qt.ld rfl (Cel.var 2 rfl) (o := 0) (off := 1) rfl (Cut.one Try.isAgg3 rfl)) rfl ?_
   refine Mx.p rfl (Pu.move rfl) rfl ?_
   refine Mx.p rfl (Pu.indexAddrK 0 Try.runUnderlying27 Try.sizeOf3 rfl rfl (by decide) (by decide) rfl) rfl ?_
   refine Mx.q rfl (Qt.ld rfl (Cel.var 2 rfl) (o := 0) (off := 0) rfl (Cut.one Try.isAgg3 rfl)) rfl ?_
   refine Mx.p rfl (Pu.indexAddrK 1 Try.runUnderlying27 Try.sizeOf3 rfl rfl (by decide) (by decide) rfl) rfl ?_
   refine Mx.q rfl (Qt.ld rfl (Cel.var 2 rfl) (o := 0) (off := 1) rfl (Cut.one Try.isAgg3 rfl)) rfl ?_
   refine Mx.p rfl (Pu.move rfl) rfl ?_
   refine Mx.l rfl (Lo.call [.int .i64 m0, .int .i64 m1, lv] (by exact Try.call10) rfl (sd_Published m0 m1 lv l (by omega)) [] [0, 1, 2, 3] (by decide) rfl [var g15 [.int .i64 (((Sh.told m0 m1 m2 m3 l).1).to), .int .i64 (((Sh.told m0 m1 m2 m3 l).1).thr), .int .i64 (((Sh.told m0 m1 m2 m3 l).1).ep), .int .i64 (((Sh.told m0 m1 m2 m3 l).1).at_)] 30, var g13 [.int .i64 (((Sh.told m0 m1 m2 m3 l).1).to), .int .i64 (((Sh.told m0 m1 m2 m3 l).1).thr), .int .i64 (((Sh.told m0 m1 m2 m3 l).1).ep), .int .i64 (((Sh.told m0 m1 m2 m3 l).1).at_)] 30, var g3 [.int .i64 m0, .int .i64 m1, .int .i64 m2, .int .i64 m3] 27, var g1 [.int .i64 (b % 8), .int .i64 (c % 16), .int .i64 r, .int .u64 key, sv] 25] rfl (RoOk.ro 1 rfl [] rfl RoOk.nil)) rfl ?_
   rintro v18 _ ⟨_, rfl, rfl⟩
   refine MxK.go [0, 1, 2, 3] [1, 2, 3] [row v18 30 4 ((Sh.pub m0 m1 l).map Kw.cells), var g15 [.int .i64 (((Sh.told m0 m1 m2 m3 l).1).to), .int .i64 (((Sh.told m0 m1 m2 m3 l).1).thr), .int .i64 (((Sh.told m0 m1 m2 m3 l).1).ep), .int .i64 (((Sh.told m0 m1 m2 m3 l).1).at_)] 30, var g13 [.int .i64 (((Sh.told m0 m1 m2 m3 l).1).to), .int .i64 (((Sh.told m0 m1 m2 m3 l).1).thr), .int .i64 (((Sh.told m0 m1 m2 m3 l).1).ep), .int .i64 (((Sh.told m0 m1 m2 m3 l).1).at_)] 30, var g3 [.int .i64 m0, .int .i64 m1, .int .i64 m2, .int .i64 m3] 27] (by decide) rfl (by decide) rfl ?_
   refine Mx.l rfl (Lo.call [.int .i64 m0, .int .i64 m1, lv] (by exact Try.call11) rfl (r43_Published m0 m1 lv l (by omega)) [] [0, 1, 2, 3, 4] (by decide) rfl [row v18 30 4 ((Sh.pub m0 m1 l).map Kw.cells), var g15 [.int .i64 (((Sh.told m0 m1 m2 m3 l).1).to), .int .i64 (((Sh.told m0 m1 m2 m3 l).1).thr), .int .i64 (((Sh.told m0 m1 m2 m3 l).1).ep), .int .i64 (((Sh.told m0 m1 m2 m3 l).1).at_)] 30, var g13 [.int .i64 (((Sh.told m0 m1 m2 m3 l).1).to), .int .i64 (((Sh.told m0 m1 m2 m3 l).1).thr), .int .i64 (((Sh.told m0 m1 m2 m3 l).1).ep), .int .i64 (((Sh.told m0 m1 m2 m3 l).1).at_)] 30, var g3 [.int .i64 m0, .int .i64 m1, .int .i64 m2, .int .i64 m3] 27, var g1 [.int .i64 (b % 8), .int .i64 (c % 16), .int .i64 r, .int .u64 key, sv] 25] rfl (RoOk.ro 1 rfl [] rfl RoOk.nil)) rfl ?_
   rintro v19 _ ⟨_, rfl, rfl⟩
   refine MxK.go [0, 1, 2, 3, 4] [1, 2, 3, 4] [row v19 30 4 ((Sh.pub m0 m1 l).map Kw.cells), row v18 30 4 ((Sh.pub m0 m1 l).map Kw.cells), var g15 [.int .i64 (((Sh.told m0 m1 m2 m3 l).1).to), .int .i64 (((Sh.told m0 m1 m2 m3 l).1).thr), .int .i64 (((Sh.told m0 m1 m2 m3 l).1).ep), .int .i64 (((Sh.told m0 m1 m2 m3 l).1).at_)] 30, var g13 [.int .i64 (((Sh.told m0 m1 m2 m3 l).1).to), .int .i64 (((Sh.told m0 m1 m2 m3 l).1).thr), .int .i64 (((Sh.told m0 m1 m2 m3 l).1).ep), .int .i64 (((Sh.told m0 m1 m2 m3 l).1).at_)] 30, var g3 [.int .i64 m0, .int .i64 m1, .int .i64 m2, .int .i64 m3] 27] (by decide) rfl (by decide) rfl ?_
   refine Mx.call (vs := [v18, v19]) (caps := []) rfl (by exact Try.call9) rfl rfl (r21_Same v18 v19 (Sh.pub m0 m1 l) (by have h_ := Sh.pub_len (s := m0) (n := m1) (l := l); omega)) (fun _ _ h => h) (RoOk.of 1 rfl row_rd [] (by decide) rfl (RoOk.of 0 rfl row_rd [] (by decide) rfl RoOk.nil)) rfl ?_
   refine Mx.p rfl (Pu.move rfl) rfl ?_
   refine Mx.gq (t := 84) rfl rfl rfl rfl rfl (Qt.ld rfl (Cel.var 3 rfl) (o := 0) (off := 0) rfl (Cut.agg [.int .i64 (((Sh.told m0 m1 m2 m3 l).1).to), .int .i64 (((Sh.told m0 m1 m2 m3 l).1).thr), .int .i64 (((Sh.told m0 m1 m2 m3 l).1).ep), .int .i64 (((Sh.told m0 m1 m2 m3 l).1).at_)] Try.isAgg30 Try.sizeOf30 rfl rfl)) rfl ?_
   refine Mx.gq (t := 84) rfl rfl rfl rfl rfl (Qt.ld rfl (Cel.var 2 rfl) (o := 0) (off := 0) rfl (Cut.agg [.int .i64 (((Sh.told m0 m1 m2 m3 l).1).to), .int .i64 (((Sh.told m0 m1 m2 m3 l).1).thr), .int .i64 (((Sh.told m0 m1 m2 m3 l).1).ep), .int .i64 (((Sh.told m0 m1 m2 m3 l).1).at_)] Try.isAgg30 Try.sizeOf30 rfl rfl)) rfl ?_
   refine Mx.gq (t := 84) rfl rfl rfl rfl rfl (Pu.qt (Pu.eqlI [((Sh.told m0 m1 m2 m3 l).1).to, ((Sh.told m0 m1 m2 m3 l).1).thr, ((Sh.told m0 m1 m2 m3 l).1).ep, ((Sh.told m0 m1 m2 m3 l).1).at_] [((Sh.told m0 m1 m2 m3 l).1).to, ((Sh.told m0 m1 m2 m3 l).1).thr, ((Sh.told m0 m1 m2 m3 l).1).ep, ((Sh.told m0 m1 m2 m3 l).1).at_] Try.underlying30 Try.stoodInHeld30 Try.eqGuardType30 (fint30 Try.underlying30) rfl rfl rfl rfl)) rfl ?_
   refine Mx.p rfl (Pu.pickT rfl rfl rfl) rfl ?_
   refine Mx.p rfl (Pu.move rfl) rfl ?_
   refine Mx.gq (t := 89) rfl rfl rfl (by simp) rfl (Pu.qt (Pu.move rfl)) rfl ?_
   refine Mx.gq (t := 89) rfl rfl rfl (by simp) rfl (Pu.qt (Pu.move rfl)) rfl ?_
   refine Mx.gq (t := 89) rfl rfl rfl (by simp) rfl (Pu.qt (Pu.beql Try.underlying4 rfl rfl)) rfl ?_
   refine Mx.p rfl (Pu.pickT rfl (by simp) rfl) rfl ?_
   refine Mx.p rfl (Pu.move rfl) rfl ?_
   refine Mx.gq (t := 94) rfl rfl rfl (by simp) rfl (Pu.qt (Pu.move rfl)) rfl ?_
   refine Mx.gq (t := 94) rfl rfl rfl (by simp) rfl (Pu.qt (Pu.move rfl)) rfl ?_
   refine Mx.gq (t := 94) rfl rfl rfl (by simp) rfl (Pu.qt (Pu.eql rfl rfl)) rfl ?_
   refine Mx.p rfl (Pu.pickT rfl (by simp) rfl) rfl ?_
   refine Mx.p rfl (Pu.move rfl) rfl ?_
   refine Mx.gq (t := 99) rfl rfl rfl (by simp) rfl (Pu.qt (Pu.move rfl)) rfl ?_
   refine Mx.gq (t := 99) rfl rfl rfl (by simp) rfl (Pu.qt (Pu.move rfl)) rfl ?_
   refine Mx.gq (t := 99) rfl rfl rfl (by simp) rfl (Pu.qt (Pu.beql Try.underlying4 rfl rfl)) rfl ?_
   refine Mx.p rfl (Pu.pickT rfl (by simp) rfl) rfl ?_
   refine Mx.p rfl (Pu.move rfl) rfl ?_
   refine Mx.gq (t := 104) rfl rfl rfl (by simp) rfl (Pu.qt (Pu.indexAddrK 0 Try.runUnderlying27 Try.sizeOf3 rfl rfl (by decide) (by decide) rfl)) rfl ?_
   refine Mx.gq (t := 104) rfl rfl rfl (by simp) rfl (Qt.ld rfl (Cel.var 4 rfl) (o := 0) (off := 0) rfl (Cut.one Try.isAgg3 rfl)) rfl ?_
   refine Mx.gq (t := 104) rfl rfl rfl (by simp) rfl (Pu.qt (Pu.move rfl)) rfl ?_
   refine Mx.gq (t := 104) rfl rfl rfl (by simp) rfl (Pu.qt (Pu.indexAddrK 0 Try.runUnderlying27 Try.sizeOf3 rfl rfl (by decide) (by decide) rfl)) rfl ?_
   refine Mx.gq (t := 104) rfl rfl rfl (by simp) rfl (Qt.ld rfl (Cel.var 4 rfl) (o := 0) (off := 0) rfl (Cut.one Try.isAgg3 rfl)) rfl ?_
   refine Mx.gq (t := 104) rfl rfl rfl (by simp) rfl (Pu.qt (Pu.move rfl)) rfl ?_
   refine Mx.gl (t := 104) rfl rfl rfl (by simp) rfl (Lo.call [.int .i64 m0, lv] (by exact Try.call12) rfl (sd_Cuts m0 lv l (by omega)) [] [0, 1, 2, 3, 4, 5] (by decide) rfl [row v19 30 4 ((Sh.pub m0 m1 l).map Kw.cells), row v18 30 4 ((Sh.pub m0 m1 l).map Kw.cells), var g15 [.int .i64 (((Sh.told m0 m1 m2 m3 l).1).to), .int .i64 (((Sh.told m0 m1 m2 m3 l).1).thr), .int .i64 (((Sh.told m0 m1 m2 m3 l).1).ep), .int .i64 (((Sh.told m0 m1 m2 m3 l).1).at_)] 30, var g13 [.int .i64 (((Sh.told m0 m1 m2 m3 l).1).to), .int .i64 (((Sh.told m0 m1 m2 m3 l).1).thr), .int .i64 (((Sh.told m0 m1 m2 m3 l).1).ep), .int .i64 (((Sh.told m0 m1 m2 m3 l).1).at_)] 30, var g3 [.int .i64 m0, .int .i64 m1, .int .i64 m2, .int .i64 m3] 27, var g1 [.int .i64 (b % 8), .int .i64 (c % 16), .int .i64 r, .int .u64 key, sv] 25] rfl (RoOk.ro 1 rfl [] rfl RoOk.nil)) rfl ?_
   rintro _ _ ⟨_, ⟨rfl, rfl⟩, rfl⟩
   refine MxK.go [0, 1, 2, 3, 4] [0, 1, 2, 3, 4] [row v19 30 4 ((Sh.pub m0 m1 l).map Kw.cells), row v18 30 4 ((Sh.pub m0 m1 l).map Kw.cells), var g15 [.int .i64 (((Sh.told m0 m1 m2 m3 l).1).to), .int .i64 (((Sh.told m0 m1 m2 m3 l).1).thr), .int .i64 (((Sh.told m0 m1 m2 m3 l).1).ep), .int .i64 (((Sh.told m0 m1 m2 m3 l).1).at_)] 30, var g13 [.int .i64 (((Sh.told m0 m1 m2 m3 l).1).to), .int .i64 (((Sh.told m0 m1 m2 m3 l).1).thr), .int .i64 (((Sh.told m0 m1 m2 m3 l).1).ep), .int .i64 (((Sh.told m0 m1 m2 m3 l).1).at_)] 30, var g3 [.int .i64 m0, .int .i64 m1, .int .i64 m2, .int .i64 m3] 27] (by decide) rfl (by decide) rfl ?_
   refine Mx.gl (t := 104) rfl rfl rfl (by simp) rfl (Lo.call [.int .i64 m0, lv] (by exact Try.call13) rfl (r43_Cuts m0 lv l (by omega)) [] [0, 1, 2, 3, 4, 5] (by decide) rfl [row v19 30 4 ((Sh.pub m0 m1 l).map Kw.cells), row v18 30 4 ((Sh.pub m0 m1 l).map Kw.cells), var g15 [.int .i64 (((Sh.told m0 m1 m2 m3 l).1).to), .int .i64 (((Sh.told m0 m1 m2 m3 l).1).thr), .int .i64 (((Sh.told m0 m1 m2 m3 l).1).ep), .int .i64 (((Sh.told m0 m1 m2 m3 l).1).at_)] 30, var g13 [.int .i64 (((Sh.told m0 m1 m2 m3 l).1).to), .int .i64 (((Sh.told m0 m1 m2 m3 l).1).thr), .int .i64 (((Sh.told m0 m1 m2 m3 l).1).ep), .int .i64 (((Sh.told m0 m1 m2 m3 l).1).at_)] 30, var g3 [.int .i64 m0, .int .i64 m1, .int .i64 m2, .int .i64 m3] 27, var g1 [.int .i64 (b % 8), .int .i64 (c % 16), .int .i64 r, .int .u64 key, sv] 25] rfl (RoOk.ro 1 rfl [] rfl RoOk.nil)) rfl ?_
   rintro _ _ ⟨_, ⟨rfl, rfl⟩, rfl⟩
   refine MxK.go [0, 1, 2, 3, 4] [0, 1, 2, 3, 4] [row v19 30 4 ((Sh.pub m0 m1 l).map Kw.cells), row v18 30 4 ((Sh.pub m0 m1 l).map Kw.cells), var g15 [.int .i64 (((Sh.told m0 m1 m2 m3 l).1).to), .int .i64 (((Sh.told m0 m1 m2 m3 l).1).thr), .int .i64 (((Sh.told m0 m1 m2 m3 l).1).ep), .int .i64 (((Sh.told m0 m1 m2 m3 l).1).at_)] 30, var g13 [.int .i64 (((Sh.told m0 m1 m2 m3 l).1).to), .int .i64 (((Sh.told m0 m1 m2 m3 l).1).thr), .int .i64 (((Sh.told m0 m1 m2 m3 l).1).ep), .int .i64 (((Sh.told m0 m1 m2 m3 l).1).at_)] 30, var g3 [.int .i64 m0, .int .i64 m1, .int .i64 m2, .int .i64 m3] 27] (by decide) rfl (by decide) rfl ?_
   refine Mx.gq (t := 104) rfl rfl rfl (by simp) rfl (Pu.qt (Pu.eql rfl rfl)) rfl ?_
   refine Mx.p rfl (Pu.pickT rfl (by simp) rfl) rfl ?_
   refine Mx.p rfl (Pu.move rfl) rfl ?_
   refine Mx.gl (t := 115) rfl rfl rfl (by simp) rfl (Lo.call [] (by exact Try.call4) rfl l43_awake [] [0, 1, 2, 3, 4, 5] (by decide) rfl [row v19 30 4 ((Sh.pub m0 m1 l).map Kw.cells), row v18 30 4 ((Sh.pub m0 m1 l).map Kw.cells), var g15 [.int .i64 (((Sh.told m0 m1 m2 m3 l).1).to), .int .i64 (((Sh.told m0 m1 m2 m3 l).1).thr), .int .i64 (((Sh.told m0 m1 m2 m3 l).1).ep), .int .i64 (((Sh.told m0 m1 m2 m3 l).1).at_)] 30, var g13 [.int .i64 (((Sh.told m0 m1 m2 m3 l).1).to), .int .i64 (((Sh.told m0 m1 m2 m3 l).1).thr), .int .i64 (((Sh.told m0 m1 m2 m3 l).1).ep), .int .i64 (((Sh.told m0 m1 m2 m3 l).1).at_)] 30, var g3 [.int .i64 m0, .int .i64 m1, .int .i64 m2, .int .i64 m3] 27, var g1 [.int .i64 (b % 8), .int .i64 (c % 16), .int .i64 r, .int .u64 key, sv] 25] rfl RoOk.nil) rfl ?_
   rintro _ _ ⟨_, ⟨rfl, rfl⟩, rfl⟩
   refine MxK.go [0, 1, 2, 3, 4] [0, 1, 2, 3, 4] [row v19 30 4 ((Sh.pub m0 m1 l).map Kw.cells), row v18 30 4 ((Sh.pub m0 m1 l).map Kw.cells), var g15 [.int .i64 (((Sh.told m0 m1 m2 m3 l).1).to), .int .i64 (((Sh.told m0 m1 m2 m3 l).1).thr), .int .i64 (((Sh.told m0 m1 m2 m3 l).1).ep), .int .i64 (((Sh.told m0 m1 m2 m3 l).1).at_)] 30, var g13 [.int .i64 (((Sh.told m0 m1 m2 m3 l).1).to), .int .i64 (((Sh.told m0 m1 m2 m3 l).1).thr), .int .i64 (((Sh.told m0 m1 m2 m3 l).1).ep), .int .i64 (((Sh.told m0 m1 m2 m3 l).1).at_)] 30, var g3 [.int .i64 m0, .int .i64 m1, .int .i64 m2, .int .i64 m3] 27] (by decide) rfl (by decide) rfl ?_
   refine Mx.p rfl (Pu.pickT rfl (by simp) rfl) rfl ?_
   refine Mx.p rfl (Pu.assign rfl) rfl ?_
   refine Mx.nil ?_
   exact J.ret (Fin.ret (rs := [.tmp 6]) rfl [_] ⟨rfl, trivial⟩ [] (by decide) [] rfl ⟨rfl, rfl⟩)

end Go.Proofs.Ytdnalilglacjbaa
