/-
  Several texts in one: SI1, SI2.
-/
import Derived.KernelRfl
import Derived.Test.YtnhfgnnpbipcnaaGreatDoorGXA
import Derived.Test.YtnhfgnnpbipcnaaGreatDoorSiteA
namespace Go.Proofs.YtnhfgnnpbipcnaaGreatDoor
open Go Go.LK Go.Proofs.Tryz
set_option linter.unusedSimpArgs false

set_option maxRecDepth 100000 in
theorem bd_Keep (n most : Int) : Tri prog 101 #[.int .i64 n, .int .i64 most] [] [] (fun v L' => v = .int .i64 (Si.keep n most) ∧ L' = []) := by
 refine Tri.enter (args := [.int .i64 n, .int .i64 most]) (body := _) 9 func101 rfl ntmps101 rfl ?_
 intro w0
 refine J.seq <| J.region <| O.a rfl rfl <| O.nil <| J.seq <| J.region <| O.m rfl rfl <| O.m rfl rfl <| O.p (Pu.min rfl rfl) rfl <| O.p (Pu.max rfl rfl) rfl <| O.a rfl rfl <| O.nil ?_
 exact J.ret (Fin.ret (rs := [.tmp 4]) rfl [_] ⟨rfl, trivial⟩ [] (by decide) [] rfl ⟨rfl, rfl⟩)

set_option maxRecDepth 100000 in
theorem bd_times (a b : Int) : Tri prog 67 #[.int .i64 a, .int .i64 b] [] [] (fun v L' => v = .int .i64 (IntKind.i64.wrap (a * b)) ∧ L' = []) := by
 refine Tri.enter (args := [.int .i64 a, .int .i64 b]) (body := _) 8 func67 rfl ntmps67 rfl ?_
 intro w0
 refine J.seq <| J.region <| O.a rfl rfl <| O.nil <| J.seq <| J.region <| O.m rfl rfl <| O.m rfl rfl <| O.p (Pu.mul rfl rfl) rfl <| O.a rfl rfl <| O.nil ?_
 exact J.ret (Fin.ret (rs := [.tmp 4]) rfl [_] ⟨rfl, trivial⟩ [] (by decide) [] rfl ⟨rfl, rfl⟩)

set_option maxRecDepth 100000 in
theorem bd_countsMul (a b : Int) : Tri prog 66 #[.int .i64 a, .int .i64 b, .func (.func 67) #[] #[]] [] [] (fun v L' => v = .int .i64 (Si.mulC a b) ∧ L' = []) := by
 refine Tri.enter (args := [.int .i64 a, .int .i64 b, .func (.func 67) #[] #[]]) (body := _) 14 func66 rfl ntmps66 rfl ?_
 intro w0
 refine J.seq <| J.region <| O.a rfl rfl <| O.nil <| J.seq <| J.region <| O.m rfl rfl <| O.m rfl rfl <| O.l (Lo.call [.int .i64 a, .int .i64 2147483647] (by exact call101) rfl (bd_Keep a 2147483647) [] [] (by decide) rfl [] rfl RoOk.nil) rfl ?_
 rintro _ _ ⟨_, ⟨rfl, rfl⟩, rfl⟩
 refine O.m rfl rfl <| O.l (Lo.call [.int .i64 b, .int .i64 2147483647] (by exact call101) rfl (bd_Keep b 2147483647) [] [] (by decide) rfl [] rfl RoOk.nil) rfl ?_
 rintro _ _ ⟨_, ⟨rfl, rfl⟩, rfl⟩
 refine O.l (Lo.callV (vs := [.int .i64 (Si.keep a 2147483647), .int .i64 (Si.keep b 2147483647)]) (caps := []) (by exact call67) rfl rfl (bd_times (Si.keep a 2147483647) (Si.keep b 2147483647)) [] [] (by decide) rfl [] rfl RoOk.nil) rfl ?_
 rintro _ _ ⟨_, ⟨rfl, rfl⟩, rfl⟩
 refine O.l (Lo.call [.int .i64 (IntKind.i64.wrap ((Si.keep a 2147483647) * (Si.keep b 2147483647))), .int .i64 2147483647] (by exact call101) rfl (bd_Keep (IntKind.i64.wrap ((Si.keep a 2147483647) * (Si.keep b 2147483647))) 2147483647) [] [] (by decide) rfl [] rfl RoOk.nil) rfl ?_
 rintro _ _ ⟨_, ⟨rfl, rfl⟩, rfl⟩
 refine O.a rfl rfl <| O.nil ?_
 exact J.ret (Fin.ret (rs := [.tmp 6]) rfl [_] ⟨rfl, trivial⟩ [] (by decide) [] rfl ⟨rfl, rfl⟩)

set_option maxRecDepth 100000 in
theorem bd_Mul (a b : Int) : Tri prog 33 #[.int .i64 a, .int .i64 b] [] [] (fun v L' => v = .int .i64 (Si.mulC a b) ∧ L' = []) := by
 refine Tri.enter (args := [.int .i64 a, .int .i64 b]) (body := _) 8 func33 rfl ntmps33 rfl ?_
 intro w0
 refine J.seq <| J.region <| O.a rfl rfl <| O.nil <| J.seq <| J.region <| O.m rfl rfl <| O.m rfl rfl <| O.l (Lo.call [.int .i64 a, .int .i64 b, .func (.func 67) #[] #[]] (by exact call66) rfl (bd_countsMul a b) [] [] (by decide) rfl [] rfl RoOk.nil) rfl ?_
 rintro _ _ ⟨_, ⟨rfl, rfl⟩, rfl⟩
 refine O.a rfl rfl <| O.nil ?_
 exact J.ret (Fin.ret (rs := [.tmp 4]) rfl [_] ⟨rfl, trivial⟩ [] (by decide) [] rfl ⟨rfl, rfl⟩)

set_option maxRecDepth 100000 in
theorem lv_New (b c : Int) (hb : Si.okL b c = true) : Tri prog 24 #[.int .i64 b, .int .i64 c] [] [] (fun v L' => v = .tuple #[.agg #[.int .i64 b, .int .i64 c], .int .i64 0] ∧ L' = []) := by
 have hb2 := Si.okL_iff.1 hb
 refine Tri.enter (args := [.int .i64 b, .int .i64 c]) (body := _) 27 func24 rfl ntmps24 rfl ?_
 intro w0
 refine J.seq <| J.region <| O.l (Lo.alloc [.int .i64 0, .int .i64 0] (by exact zeroValue57) rfl) rfl ?_
 rintro _ _ ⟨g1, rfl, rfl⟩
 refine O.a rfl rfl <| O.nil <| J.seq <| J.region <| O.m rfl rfl <| O.m rfl rfl <| O.p (Pu.build [(0, .int .i64 b), (1, .int .i64 c)] [.int .i64 b, .int .i64 c] #[(0, 1), (1, 1)] runUnderlying55 zeroValue55 (places55 underlying55) rfl (by kernel_rfl)) rfl <| O.p (Pu.build [(0, .agg #[.int .i64 b, .int .i64 c])] [.int .i64 b, .int .i64 c] #[(0, 2)] runUnderlying57 zeroValue57 (places57 underlying57) rfl (by kernel_rfl)) rfl <| O.l (Lo.alloc [.int .i64 0, .int .i64 0] (by exact zeroValue57) rfl) rfl ?_
 rintro _ _ ⟨g2, rfl, rfl⟩
 refine O.l0 (Lo.store 0 (vs := [.int .i64 b, .int .i64 c]) [.int .i64 b, .int .i64 c] rfl rfl rfl (by exact sizeOf57) rfl rfl rfl rfl rfl) ?_
 rintro _ _ rfl
 refine O.nil <| J.seq <| J.seq <| J.region <| O.m rfl rfl <| O.p (Pu.lss rfl rfl) rfl <| O.m rfl rfl <| O.gq (t := 13) rfl rfl (decide_eq_false (by omega)) rfl (Pu.qt (Pu.move rfl)) rfl <| O.gq (t := 13) rfl rfl (decide_eq_false (by omega)) rfl (Pu.qt (Pu.gtr rfl rfl)) rfl <| O.p (Pu.pickF rfl (decide_eq_false (by omega)) rfl) rfl <| O.m rfl rfl <| O.gq (t := 17) rfl rfl (decide_eq_false (by omega)) rfl (Pu.qt (Pu.move rfl)) rfl ?_
 refine O.gq (t := 17) rfl rfl (decide_eq_false (by omega)) rfl (Pu.qt (Pu.lss rfl rfl)) rfl <| O.p (Pu.pickF rfl (decide_eq_false (by omega)) rfl) rfl <| O.m rfl rfl <| O.gq (t := 21) rfl rfl (decide_eq_false (by omega)) rfl (Pu.qt (Pu.move rfl)) rfl <| O.gq (t := 21) rfl rfl (decide_eq_false (by omega)) rfl (Pu.qt (Pu.gtr rfl rfl)) rfl <| O.p (Pu.pickF rfl (decide_eq_false (by omega)) rfl) rfl <| O.nil <| J.condF rfl (decide_eq_false (by omega)) <| J.skip <| J.seq <| J.region <| O.q (Qt.ld rfl (Cel.var 0 rfl) (o := 0) (off := 0) rfl (Cut.agg [.int .i64 b, .int .i64 c] isAgg57 sizeOf57 rfl rfl)) rfl ?_
 refine O.l0 (Lo.store 1 (vs := [.int .i64 b, .int .i64 c]) [.int .i64 b, .int .i64 c] rfl rfl rfl (by exact sizeOf57) rfl rfl rfl rfl rfl) ?_
 rintro _ _ rfl
 refine O.a rfl rfl <| O.nil ?_
 exact J.ret (Fin.ret (rs := [.cell 4 57, .tmp 5]) rfl [_, _] ⟨⟨_, _, 0, 0, _, rfl, (Cel.var 1 rfl), rfl, (Cut.agg [.int .i64 b, .int .i64 c] isAgg57 sizeOf57 rfl rfl)⟩, rfl, trivial⟩ [] (by decide) [] rfl ⟨rfl, rfl⟩)

set_option maxRecDepth 100000 in
theorem lv_NewNo (b c : Int) (hb : Si.okL b c = false) : Tri prog 24 #[.int .i64 b, .int .i64 c] [] [] (fun v L' => v = .tuple #[.agg #[.int .i64 0, .int .i64 0], .int .i64 1] ∧ L' = []) := by
 have hb2 := Si.okL_no hb
 refine Tri.enter (args := [.int .i64 b, .int .i64 c]) (body := _) 27 func24 rfl ntmps24 rfl ?_
 intro w0
 refine J.seq <| J.region <| O.l (Lo.alloc [.int .i64 0, .int .i64 0] (by exact zeroValue57) rfl) rfl ?_
 rintro _ _ ⟨g1, rfl, rfl⟩
 refine O.a rfl rfl <| O.nil <| J.seq <| J.region <| O.m rfl rfl <| O.m rfl rfl <| O.p (Pu.build [(0, .int .i64 b), (1, .int .i64 c)] [.int .i64 b, .int .i64 c] #[(0, 1), (1, 1)] runUnderlying55 zeroValue55 (places55 underlying55) rfl (by kernel_rfl)) rfl <| O.p (Pu.build [(0, .agg #[.int .i64 b, .int .i64 c])] [.int .i64 b, .int .i64 c] #[(0, 2)] runUnderlying57 zeroValue57 (places57 underlying57) rfl (by kernel_rfl)) rfl <| O.l (Lo.alloc [.int .i64 0, .int .i64 0] (by exact zeroValue57) rfl) rfl ?_
 rintro _ _ ⟨g2, rfl, rfl⟩
 refine O.l0 (Lo.store 0 (vs := [.int .i64 b, .int .i64 c]) [.int .i64 b, .int .i64 c] rfl rfl rfl (by exact sizeOf57) rfl rfl rfl rfl rfl) ?_
 rintro _ _ rfl
 refine O.nil <| J.seq <| J.seq <| J.region <| O.m rfl rfl <| O.p (Pu.lss rfl rfl) rfl <| O.m rfl rfl ?_
 refine by_bool (decide (b < 1)) (fun h3 => ?_) (fun h3 => ?_)
 ·
  have p4 := of_decide_eq_true h3
  refine O.gskip (t := 13) rfl rfl (no_bool (by rw [h3]; decide)) rfl rfl <| O.gskip (t := 13) rfl rfl (no_bool (by rw [h3]; decide)) rfl rfl <| O.p (Pu.pickT rfl h3 rfl) rfl <| O.m rfl rfl <| O.gskip (t := 17) rfl rfl (no_bool (by decide)) rfl rfl <| O.gskip (t := 17) rfl rfl (no_bool (by decide)) rfl rfl <| O.p (Pu.pickT rfl rfl rfl) rfl <| O.m rfl rfl <| O.gskip (t := 21) rfl rfl (no_bool (by decide)) rfl rfl <| O.gskip (t := 21) rfl rfl (no_bool (by decide)) rfl rfl <| O.p (Pu.pickT rfl rfl rfl) rfl <| O.nil ?_
  refine J.condT rfl rfl <| J.seq <| J.region <| O.p (Pu.build [] [.int .i64 0, .int .i64 0] #[(0, 2)] runUnderlying57 zeroValue57 (places57 underlying57) rfl (by kernel_rfl)) rfl <| O.l0 (Lo.store 1 (vs := [.int .i64 0, .int .i64 0]) [.int .i64 0, .int .i64 0] rfl rfl rfl (by exact sizeOf57) rfl rfl rfl rfl rfl) ?_
  rintro _ _ rfl
  refine O.a rfl rfl <| O.nil ?_
  exact J.ret (Fin.ret (rs := [.cell 4 57, .tmp 5]) rfl [_, _] ⟨⟨_, _, 0, 0, _, rfl, (Cel.var 1 rfl), rfl, (Cut.agg [.int .i64 0, .int .i64 0] isAgg57 sizeOf57 rfl rfl)⟩, rfl, trivial⟩ [] (by decide) [] rfl ⟨rfl, rfl⟩)
 ·
  have p5 := of_decide_eq_false h3
  refine O.gq (t := 13) rfl rfl h3 rfl (Pu.qt (Pu.move rfl)) rfl <| O.gq (t := 13) rfl rfl h3 rfl (Pu.qt (Pu.gtr rfl rfl)) rfl <| O.p (Pu.pickF rfl h3 rfl) rfl <| O.m rfl rfl ?_
  refine by_bool (decide (8 < b)) (fun h6 => ?_) (fun h6 => ?_)
  ·
   have p7 := of_decide_eq_true h6
   refine O.gskip (t := 17) rfl rfl (no_bool (by rw [h6]; decide)) rfl rfl <| O.gskip (t := 17) rfl rfl (no_bool (by rw [h6]; decide)) rfl rfl <| O.p (Pu.pickT rfl h6 rfl) rfl <| O.m rfl rfl <| O.gskip (t := 21) rfl rfl (no_bool (by decide)) rfl rfl <| O.gskip (t := 21) rfl rfl (no_bool (by decide)) rfl rfl <| O.p (Pu.pickT rfl rfl rfl) rfl <| O.nil <| J.condT rfl rfl <| J.seq <| J.region <| O.p (Pu.build [] [.int .i64 0, .int .i64 0] #[(0, 2)] runUnderlying57 zeroValue57 (places57 underlying57) rfl (by kernel_rfl)) rfl ?_
   refine O.l0 (Lo.store 1 (vs := [.int .i64 0, .int .i64 0]) [.int .i64 0, .int .i64 0] rfl rfl rfl (by exact sizeOf57) rfl rfl rfl rfl rfl) ?_
   rintro _ _ rfl
   refine O.a rfl rfl <| O.nil ?_
   exact J.ret (Fin.ret (rs := [.cell 4 57, .tmp 5]) rfl [_, _] ⟨⟨_, _, 0, 0, _, rfl, (Cel.var 1 rfl), rfl, (Cut.agg [.int .i64 0, .int .i64 0] isAgg57 sizeOf57 rfl rfl)⟩, rfl, trivial⟩ [] (by decide) [] rfl ⟨rfl, rfl⟩)
  ·
   have p8 := of_decide_eq_false h6
   refine O.gq (t := 17) rfl rfl h6 rfl (Pu.qt (Pu.move rfl)) rfl <| O.gq (t := 17) rfl rfl h6 rfl (Pu.qt (Pu.lss rfl rfl)) rfl <| O.p (Pu.pickF rfl h6 rfl) rfl <| O.m rfl rfl ?_
   refine by_bool (decide (c < 1)) (fun h9 => ?_) (fun h9 => ?_)
   ·
    have p10 := of_decide_eq_true h9
    refine O.gskip (t := 21) rfl rfl (no_bool (by rw [h9]; decide)) rfl rfl <| O.gskip (t := 21) rfl rfl (no_bool (by rw [h9]; decide)) rfl rfl <| O.p (Pu.pickT rfl h9 rfl) rfl <| O.nil <| J.condT rfl rfl <| J.seq <| J.region <| O.p (Pu.build [] [.int .i64 0, .int .i64 0] #[(0, 2)] runUnderlying57 zeroValue57 (places57 underlying57) rfl (by kernel_rfl)) rfl <| O.l0 (Lo.store 1 (vs := [.int .i64 0, .int .i64 0]) [.int .i64 0, .int .i64 0] rfl rfl rfl (by exact sizeOf57) rfl rfl rfl rfl rfl) ?_
    rintro _ _ rfl
    refine O.a rfl rfl <| O.nil ?_
    exact J.ret (Fin.ret (rs := [.cell 4 57, .tmp 5]) rfl [_, _] ⟨⟨_, _, 0, 0, _, rfl, (Cel.var 1 rfl), rfl, (Cut.agg [.int .i64 0, .int .i64 0] isAgg57 sizeOf57 rfl rfl)⟩, rfl, trivial⟩ [] (by decide) [] rfl ⟨rfl, rfl⟩)
   ·
    have p11 := of_decide_eq_false h9
    refine O.gq (t := 21) rfl rfl h9 rfl (Pu.qt (Pu.move rfl)) rfl <| O.gq (t := 21) rfl rfl h9 rfl (Pu.qt (Pu.gtr rfl rfl)) rfl <| O.p (Pu.pickF rfl h9 rfl) rfl <| O.nil ?_
    refine J.cond rfl (fun h12 => ?_) (fun h12 => ?_)
    ·
     have p13 := of_decide_eq_true h12
     refine J.seq <| J.region <| O.p (Pu.build [] [.int .i64 0, .int .i64 0] #[(0, 2)] runUnderlying57 zeroValue57 (places57 underlying57) rfl (by kernel_rfl)) rfl <| O.l0 (Lo.store 1 (vs := [.int .i64 0, .int .i64 0]) [.int .i64 0, .int .i64 0] rfl rfl rfl (by exact sizeOf57) rfl rfl rfl rfl rfl) ?_
     rintro _ _ rfl
     refine O.a rfl rfl <| O.nil ?_
     exact J.ret (Fin.ret (rs := [.cell 4 57, .tmp 5]) rfl [_, _] ⟨⟨_, _, 0, 0, _, rfl, (Cel.var 1 rfl), rfl, (Cut.agg [.int .i64 0, .int .i64 0] isAgg57 sizeOf57 rfl rfl)⟩, rfl, trivial⟩ [] (by decide) [] rfl ⟨rfl, rfl⟩)
    ·
     have p14 := of_decide_eq_false h12
     exfalso; omega

set_option maxRecDepth 100000 in
theorem us_New (n : Nat) (c r : Int) (hb : Si.okU c r = true) : Tri prog 25 #[.int .u64 (Nat.cast n : Int), .int .i64 c, .int .i64 r] [] [] (fun v L' => v = .tuple #[.agg #[.int .u64 (Nat.cast n : Int), .int .i64 c, .int .i64 r], .int .i64 0] ∧ L' = []) := by
 have hb2 := Si.okU_iff.1 hb
 refine Tri.enter (args := [.int .u64 (Nat.cast n : Int), .int .i64 c, .int .i64 r]) (body := _) 27 func25 rfl ntmps25 rfl ?_
 intro w0
 refine J.seq <| J.region <| O.l (Lo.alloc [.int .u64 0, .int .i64 0, .int .i64 0] (by exact zeroValue61) rfl) rfl ?_
 rintro _ _ ⟨g1, rfl, rfl⟩
 refine O.a rfl rfl <| O.nil <| J.seq <| J.seq <| J.region <| O.m rfl rfl <| O.p (Pu.lss rfl rfl) rfl <| O.m rfl rfl <| O.gq (t := 10) rfl rfl (decide_eq_false (by omega)) rfl (Pu.qt (Pu.move rfl)) rfl <| O.gq (t := 10) rfl rfl (decide_eq_false (by omega)) rfl (Pu.qt (Pu.gtr rfl rfl)) rfl <| O.p (Pu.pickF rfl (decide_eq_false (by omega)) rfl) rfl <| O.m rfl rfl ?_
 refine O.gq (t := 14) rfl rfl (decide_eq_false (by omega)) rfl (Pu.qt (Pu.move rfl)) rfl <| O.gq (t := 14) rfl rfl (decide_eq_false (by omega)) rfl (Pu.qt (Pu.lss rfl rfl)) rfl <| O.p (Pu.pickF rfl (decide_eq_false (by omega)) rfl) rfl <| O.m rfl rfl <| O.gq (t := 18) rfl rfl (decide_eq_false (by omega)) rfl (Pu.qt (Pu.move rfl)) rfl <| O.gq (t := 18) rfl rfl (decide_eq_false (by omega)) rfl (Pu.qt (Pu.gtr rfl rfl)) rfl <| O.p (Pu.pickF rfl (decide_eq_false (by omega)) rfl) rfl <| O.nil <| J.condF rfl (decide_eq_false (by omega)) <| J.skip <| J.seq <| J.region ?_
 refine O.m rfl rfl <| O.m rfl rfl <| O.m rfl rfl <| O.p (Pu.build [(0, .int .u64 (Nat.cast n : Int)), (1, .int .i64 c), (2, .int .i64 r)] [.int .u64 (Nat.cast n : Int), .int .i64 c, .int .i64 r] #[(0, 1), (1, 1), (2, 1)] runUnderlying61 zeroValue61 (places61 underlying61) rfl (by kernel_rfl)) rfl <| O.l0 (Lo.store 0 (vs := [.int .u64 (Nat.cast n : Int), .int .i64 c, .int .i64 r]) [.int .u64 (Nat.cast n : Int), .int .i64 c, .int .i64 r] rfl rfl rfl (by exact sizeOf61) rfl rfl rfl rfl rfl) ?_
 rintro _ _ rfl
 refine O.a rfl rfl <| O.nil ?_
 exact J.ret (Fin.ret (rs := [.cell 6 61, .tmp 7]) rfl [_, _] ⟨⟨_, _, 0, 0, _, rfl, (Cel.var 0 rfl), rfl, (Cut.agg [.int .u64 (Nat.cast n : Int), .int .i64 c, .int .i64 r] isAgg61 sizeOf61 rfl rfl)⟩, rfl, trivial⟩ [] (by decide) [] rfl ⟨rfl, rfl⟩)

set_option maxRecDepth 100000 in
theorem us_NewNo (n : Nat) (c r : Int) (hb : Si.okU c r = false) : Tri prog 25 #[.int .u64 (Nat.cast n : Int), .int .i64 c, .int .i64 r] [] [] (fun v L' => v = .tuple #[.agg #[.int .u64 0, .int .i64 0, .int .i64 0], .int .i64 1] ∧ L' = []) := by
 have hb2 := Si.okU_no hb
 refine Tri.enter (args := [.int .u64 (Nat.cast n : Int), .int .i64 c, .int .i64 r]) (body := _) 27 func25 rfl ntmps25 rfl ?_
 intro w0
 refine J.seq <| J.region <| O.l (Lo.alloc [.int .u64 0, .int .i64 0, .int .i64 0] (by exact zeroValue61) rfl) rfl ?_
 rintro _ _ ⟨g1, rfl, rfl⟩
 refine O.a rfl rfl <| O.nil <| J.seq <| J.seq <| J.region <| O.m rfl rfl <| O.p (Pu.lss rfl rfl) rfl <| O.m rfl rfl ?_
 refine by_bool (decide (c < 1)) (fun h2 => ?_) (fun h2 => ?_)
 ·
  have p3 := of_decide_eq_true h2
  refine O.gskip (t := 10) rfl rfl (no_bool (by rw [h2]; decide)) rfl rfl <| O.gskip (t := 10) rfl rfl (no_bool (by rw [h2]; decide)) rfl rfl <| O.p (Pu.pickT rfl h2 rfl) rfl <| O.m rfl rfl <| O.gskip (t := 14) rfl rfl (no_bool (by decide)) rfl rfl <| O.gskip (t := 14) rfl rfl (no_bool (by decide)) rfl rfl <| O.p (Pu.pickT rfl rfl rfl) rfl <| O.m rfl rfl <| O.gskip (t := 18) rfl rfl (no_bool (by decide)) rfl rfl <| O.gskip (t := 18) rfl rfl (no_bool (by decide)) rfl rfl <| O.p (Pu.pickT rfl rfl rfl) rfl <| O.nil ?_
  refine J.condT rfl rfl <| J.seq <| J.region <| O.p (Pu.build [] [.int .u64 0, .int .i64 0, .int .i64 0] #[(0, 1), (1, 1), (2, 1)] runUnderlying61 zeroValue61 (places61 underlying61) rfl (by kernel_rfl)) rfl <| O.l0 (Lo.store 0 (vs := [.int .u64 0, .int .i64 0, .int .i64 0]) [.int .u64 0, .int .i64 0, .int .i64 0] rfl rfl rfl (by exact sizeOf61) rfl rfl rfl rfl rfl) ?_
  rintro _ _ rfl
  refine O.a rfl rfl <| O.nil ?_
  exact J.ret (Fin.ret (rs := [.cell 6 61, .tmp 7]) rfl [_, _] ⟨⟨_, _, 0, 0, _, rfl, (Cel.var 0 rfl), rfl, (Cut.agg [.int .u64 0, .int .i64 0, .int .i64 0] isAgg61 sizeOf61 rfl rfl)⟩, rfl, trivial⟩ [] (by decide) [] rfl ⟨rfl, rfl⟩)
 ·
  have p4 := of_decide_eq_false h2
  refine O.gq (t := 10) rfl rfl h2 rfl (Pu.qt (Pu.move rfl)) rfl <| O.gq (t := 10) rfl rfl h2 rfl (Pu.qt (Pu.gtr rfl rfl)) rfl <| O.p (Pu.pickF rfl h2 rfl) rfl <| O.m rfl rfl ?_
  refine by_bool (decide (16 < c)) (fun h5 => ?_) (fun h5 => ?_)
  ·
   have p6 := of_decide_eq_true h5
   refine O.gskip (t := 14) rfl rfl (no_bool (by rw [h5]; decide)) rfl rfl <| O.gskip (t := 14) rfl rfl (no_bool (by rw [h5]; decide)) rfl rfl <| O.p (Pu.pickT rfl h5 rfl) rfl <| O.m rfl rfl <| O.gskip (t := 18) rfl rfl (no_bool (by decide)) rfl rfl <| O.gskip (t := 18) rfl rfl (no_bool (by decide)) rfl rfl <| O.p (Pu.pickT rfl rfl rfl) rfl <| O.nil <| J.condT rfl rfl <| J.seq <| J.region <| O.p (Pu.build [] [.int .u64 0, .int .i64 0, .int .i64 0] #[(0, 1), (1, 1), (2, 1)] runUnderlying61 zeroValue61 (places61 underlying61) rfl (by kernel_rfl)) rfl ?_
   refine O.l0 (Lo.store 0 (vs := [.int .u64 0, .int .i64 0, .int .i64 0]) [.int .u64 0, .int .i64 0, .int .i64 0] rfl rfl rfl (by exact sizeOf61) rfl rfl rfl rfl rfl) ?_
   rintro _ _ rfl
   refine O.a rfl rfl <| O.nil ?_
   exact J.ret (Fin.ret (rs := [.cell 6 61, .tmp 7]) rfl [_, _] ⟨⟨_, _, 0, 0, _, rfl, (Cel.var 0 rfl), rfl, (Cut.agg [.int .u64 0, .int .i64 0, .int .i64 0] isAgg61 sizeOf61 rfl rfl)⟩, rfl, trivial⟩ [] (by decide) [] rfl ⟨rfl, rfl⟩)
  ·
   have p7 := of_decide_eq_false h5
   refine O.gq (t := 14) rfl rfl h5 rfl (Pu.qt (Pu.move rfl)) rfl <| O.gq (t := 14) rfl rfl h5 rfl (Pu.qt (Pu.lss rfl rfl)) rfl <| O.p (Pu.pickF rfl h5 rfl) rfl <| O.m rfl rfl ?_
   refine by_bool (decide (r < 1)) (fun h8 => ?_) (fun h8 => ?_)
   ·
    have p9 := of_decide_eq_true h8
    refine O.gskip (t := 18) rfl rfl (no_bool (by rw [h8]; decide)) rfl rfl <| O.gskip (t := 18) rfl rfl (no_bool (by rw [h8]; decide)) rfl rfl <| O.p (Pu.pickT rfl h8 rfl) rfl <| O.nil <| J.condT rfl rfl <| J.seq <| J.region <| O.p (Pu.build [] [.int .u64 0, .int .i64 0, .int .i64 0] #[(0, 1), (1, 1), (2, 1)] runUnderlying61 zeroValue61 (places61 underlying61) rfl (by kernel_rfl)) rfl <| O.l0 (Lo.store 0 (vs := [.int .u64 0, .int .i64 0, .int .i64 0]) [.int .u64 0, .int .i64 0, .int .i64 0] rfl rfl rfl (by exact sizeOf61) rfl rfl rfl rfl rfl) ?_
    rintro _ _ rfl
    refine O.a rfl rfl <| O.nil ?_
    exact J.ret (Fin.ret (rs := [.cell 6 61, .tmp 7]) rfl [_, _] ⟨⟨_, _, 0, 0, _, rfl, (Cel.var 0 rfl), rfl, (Cut.agg [.int .u64 0, .int .i64 0, .int .i64 0] isAgg61 sizeOf61 rfl rfl)⟩, rfl, trivial⟩ [] (by decide) [] rfl ⟨rfl, rfl⟩)
   ·
    have p10 := of_decide_eq_false h8
    refine O.gq (t := 18) rfl rfl h8 rfl (Pu.qt (Pu.move rfl)) rfl <| O.gq (t := 18) rfl rfl h8 rfl (Pu.qt (Pu.gtr rfl rfl)) rfl <| O.p (Pu.pickF rfl h8 rfl) rfl <| O.nil ?_
    refine J.cond rfl (fun h11 => ?_) (fun h11 => ?_)
    ·
     have p12 := of_decide_eq_true h11
     refine J.seq <| J.region <| O.p (Pu.build [] [.int .u64 0, .int .i64 0, .int .i64 0] #[(0, 1), (1, 1), (2, 1)] runUnderlying61 zeroValue61 (places61 underlying61) rfl (by kernel_rfl)) rfl <| O.l0 (Lo.store 0 (vs := [.int .u64 0, .int .i64 0, .int .i64 0]) [.int .u64 0, .int .i64 0, .int .i64 0] rfl rfl rfl (by exact sizeOf61) rfl rfl rfl rfl rfl) ?_
     rintro _ _ rfl
     refine O.a rfl rfl <| O.nil ?_
     exact J.ret (Fin.ret (rs := [.cell 6 61, .tmp 7]) rfl [_, _] ⟨⟨_, _, 0, 0, _, rfl, (Cel.var 0 rfl), rfl, (Cut.agg [.int .u64 0, .int .i64 0, .int .i64 0] isAgg61 sizeOf61 rfl rfl)⟩, rfl, trivial⟩ [] (by decide) [] rfl ⟨rfl, rfl⟩)
    ·
     have p13 := of_decide_eq_false h11
     exfalso; omega

set_option maxRecDepth 100000 in
theorem lv_Levels (b c : Int) (hb : Si.okL b c = true) : Tri prog 27 #[.agg #[.int .i64 b, .int .i64 c]] [] [] (fun v L' => v = .int .i64 (b * c) ∧ L' = []) := by
 refine Tri.enter (args := [.agg #[.int .i64 b, .int .i64 c]]) (body := _) 8 func27 rfl ntmps27 rfl ?_
 intro w0
 refine J.seq <| J.region <| O.l (Lo.box [.int .i64 b, .int .i64 c] rfl rfl) rfl ?_
 rintro _ _ ⟨g1, rfl, rfl⟩
 refine O.a rfl rfl <| O.nil <| J.seq <| J.region <| O.p (Pu.fieldAddr (off' := 0) runUnderlying55 rfl sizeOf3 rfl rfl rfl) rfl <| O.q (Qt.ld rfl (Cel.var 0 rfl) (o := 0) (off := 0) rfl (Cut.one isAgg3 rfl)) rfl <| O.p (Pu.fieldAddr (off' := 1) runUnderlying55 rfl sizeOf3 rfl rfl rfl) rfl <| O.q (Qt.ld rfl (Cel.var 0 rfl) (o := 0) (off := 1) rfl (Cut.one isAgg3 rfl)) rfl <| O.p (Pu.mul' rfl rfl (by have h_ := Si.mul_bnd hb; omega)) rfl <| O.a rfl rfl <| O.nil ?_
 exact J.ret (Fin.ret (rs := [.tmp 2]) rfl [_] ⟨rfl, trivial⟩ [] (by decide) [] rfl ⟨rfl, rfl⟩)

set_option maxRecDepth 100000 in
theorem si_Levels (b c r : Int) (n : Nat) (sv : Value) (l : List Sg) : Tri prog 14 #[.agg #[.int .i64 b, .int .i64 c, .int .i64 r, .int .u64 (Nat.cast n : Int), sv]] [rd sv 14 (l.map Sg.cells), ros (l.map Sg.rd)] [] (fun v L' => v = .int .i64 (Si.mulC b c) ∧ L' = []) := by
 refine Tri.enter (args := [.agg #[.int .i64 b, .int .i64 c, .int .i64 r, .int .u64 (Nat.cast n : Int), sv]]) (body := _) 8 func14 rfl ntmps14 rfl ?_
 intro w0
 refine J.seq <| J.region ?_
 refine O.one (Src.ro 0 rfl) (fun hV2 => ?_)
 refine O.l (Lo.box [.int .i64 b, .int .i64 c, .int .i64 r, .int .u64 (Nat.cast n : Int), sv] rfl rfl) rfl ?_
 rintro _ _ ⟨g1, rfl, rfl⟩
 refine O.a rfl rfl <| O.nil <| J.seq <| J.region <| O.p (Pu.fieldAddr (off' := 0) runUnderlying25 rfl sizeOf3 rfl rfl rfl) rfl <| O.q (Qt.ld rfl (Cel.var 0 rfl) (o := 0) (off := 0) rfl (Cut.one isAgg3 rfl)) rfl <| O.p (Pu.fieldAddr (off' := 1) runUnderlying25 rfl sizeOf3 rfl rfl rfl) rfl <| O.q (Qt.ld rfl (Cel.var 0 rfl) (o := 0) (off := 1) rfl (Cut.one isAgg3 rfl)) rfl <| O.l (Lo.call [.int .i64 b, .int .i64 c] (by exact call33) rfl (bd_Mul b c) [] [0] (by decide) rfl [var g1 [.int .i64 b, .int .i64 c, .int .i64 r, .int .u64 (Nat.cast n : Int), sv] 25] rfl RoOk.nil) rfl ?_
 rintro _ _ ⟨_, ⟨rfl, rfl⟩, rfl⟩
 refine O.a rfl rfl <| O.nil ?_
 exact J.ret (Fin.ret (rs := [.tmp 2]) rfl [_] ⟨rfl, trivial⟩ [] (by decide) [] rfl ⟨rfl, rfl⟩)

end Go.Proofs.YtnhfgnnpbipcnaaGreatDoor

namespace Go.Proofs.YtnhfgnnpbipcnaaGreatDoor
open Go Go.LK Go.Proofs.Tryz
set_option linter.unusedSimpArgs false

set_option maxRecDepth 100000 in
set_option maxHeartbeats 2000000 in
theorem si_Check (b c r : Int) (n : Nat) (sv : Value) (l : List Sg) (hl : l.length ≤ 1000) (hc : ∀ s ∈ l, s.cl.length ≤ 1000) : Tri prog 12 #[.agg #[.int .i64 b, .int .i64 c, .int .i64 r, .int .u64 (Nat.cast n : Int), sv]] [rd sv 14 (l.map Sg.cells), ros (l.map Sg.rd)] [] (fun v L' => v = .int .i64 (Si.chk b c r l) ∧ L' = []) := by
 refine Tri.enter (args := [.agg #[.int .i64 b, .int .i64 c, .int .i64 r, .int .u64 (Nat.cast n : Int), sv]]) (body := _) 64 func12 rfl ntmps12 rfl ?_
 intro w0
 refine J.seq <| J.region ?_
 refine O.one (Src.ro 0 rfl) (fun hV2 => ?_)
 refine O.l (Lo.box [.int .i64 b, .int .i64 c, .int .i64 r, .int .u64 (Nat.cast n : Int), sv] rfl rfl) rfl ?_
 rintro _ _ ⟨g1, rfl, rfl⟩
 refine O.a rfl rfl <| O.nil <| J.seq ?_
 refine by_bool (Si.okL b c) (fun h3 => ?_) (fun h3 => ?_)
 ·
  refine J.region <| O.p (Pu.fieldAddr (off' := 0) runUnderlying25 rfl sizeOf3 rfl rfl rfl) rfl <| O.q (Qt.ld rfl (Cel.var 0 rfl) (o := 0) (off := 0) rfl (Cut.one isAgg3 rfl)) rfl <| O.p (Pu.fieldAddr (off' := 1) runUnderlying25 rfl sizeOf3 rfl rfl rfl) rfl <| O.q (Qt.ld rfl (Cel.var 0 rfl) (o := 0) (off := 1) rfl (Cut.one isAgg3 rfl)) rfl <| O.l (Lo.call [.int .i64 b, .int .i64 c] (by exact call24) rfl (lv_New b c h3) [] [0] (by decide) rfl [var g1 [.int .i64 b, .int .i64 c, .int .i64 r, .int .u64 (Nat.cast n : Int), sv] 25] rfl RoOk.nil) rfl ?_
  rintro _ _ ⟨_, ⟨rfl, rfl⟩, rfl⟩
  refine O.m rfl rfl <| O.p (Pu.extract rfl rfl) rfl <| O.p (Pu.extract rfl rfl) rfl <| O.l (Lo.alloc [.int .i64 0, .int .i64 0] (by exact zeroValue57) rfl) rfl ?_
  rintro _ _ ⟨g5, rfl, rfl⟩
  refine O.l0 (Lo.store 0 (vs := [.int .i64 b, .int .i64 c]) [.int .i64 b, .int .i64 c] rfl rfl rfl (by exact sizeOf57) rfl rfl rfl rfl rfl) ?_
  rintro _ _ rfl
  refine O.a rfl rfl <| O.nil <| J.seq ?_
  refine by_bool (Si.okU c r) (fun h6 => ?_) (fun h6 => ?_)
  ·
   refine J.region <| O.p (Pu.fieldAddr (off' := 3) runUnderlying25 rfl sizeOf22 rfl rfl rfl) rfl <| O.q (Qt.ld rfl (Cel.var 1 rfl) (o := 0) (off := 3) rfl (Cut.one isAgg22 rfl)) rfl <| O.p (Pu.fieldAddr (off' := 1) runUnderlying25 rfl sizeOf3 rfl rfl rfl) rfl <| O.q (Qt.ld rfl (Cel.var 1 rfl) (o := 0) (off := 1) rfl (Cut.one isAgg3 rfl)) rfl <| O.p (Pu.fieldAddr (off' := 2) runUnderlying25 rfl sizeOf3 rfl rfl rfl) rfl <| O.q (Qt.ld rfl (Cel.var 1 rfl) (o := 0) (off := 2) rfl (Cut.one isAgg3 rfl)) rfl <| O.l (Lo.call [.int .u64 (Nat.cast n : Int), .int .i64 c, .int .i64 r] (by exact call25) rfl (us_New n c r h6) [] [0, 1] (by decide) rfl [var g5 [.int .i64 b, .int .i64 c] 57, var g1 [.int .i64 b, .int .i64 c, .int .i64 r, .int .u64 (Nat.cast n : Int), sv] 25] rfl RoOk.nil) rfl ?_
   rintro _ _ ⟨_, ⟨rfl, rfl⟩, rfl⟩
   refine O.m rfl rfl <| O.p (Pu.extract rfl rfl) rfl <| O.p (Pu.extract rfl rfl) rfl <| O.l (Lo.alloc [.int .u64 0, .int .i64 0, .int .i64 0] (by exact zeroValue61) rfl) rfl ?_
   rintro _ _ ⟨g8, rfl, rfl⟩
   refine O.l0 (Lo.store 0 (vs := [.int .u64 (Nat.cast n : Int), .int .i64 c, .int .i64 r]) [.int .u64 (Nat.cast n : Int), .int .i64 c, .int .i64 r] rfl rfl rfl (by exact sizeOf61) rfl rfl rfl rfl rfl) ?_
   rintro _ _ rfl
   refine O.a rfl rfl <| O.nil <| J.seq <| J.seq <| J.region <| O.m rfl rfl <| O.p (Pu.neq rfl rfl) rfl <| O.m rfl rfl <| O.gq (t := 30) rfl rfl rfl rfl (Pu.qt (Pu.move rfl)) rfl <| O.gq (t := 30) rfl rfl rfl rfl (Pu.qt (Pu.neq rfl rfl)) rfl <| O.p (Pu.pickF rfl rfl rfl) rfl <| O.m rfl rfl ?_
   refine O.gq (t := 34) rfl rfl rfl rfl (Pu.qt (Pu.fieldAddr (off' := 4) runUnderlying25 rfl sizeOf23 rfl rfl rfl)) rfl <| O.gq (t := 34) rfl rfl rfl rfl (Qt.ld rfl (Cel.var 2 rfl) (o := 0) (off := 4) rfl (Cut.one isAgg23 rfl)) rfl <| O.gq (t := 34) rfl rfl rfl rfl (Qt.lenM runUnderlying23 rfl (Src.ro 0 rfl)) rfl <| O.gq (t := 34) rfl rfl rfl rfl (Pu.qt (Pu.eql rfl rfl)) rfl <| O.p (Pu.pickF rfl rfl rfl) rfl <| O.nil ?_
   refine J.cond rfl (fun h9 => ?_) (fun h9 => ?_)
   ·
    have p10 := of_decide_eq_true h9
    refine J.seq <| J.region <| O.a rfl rfl <| O.nil ?_
    exact J.ret (Fin.ret (rs := [.tmp 2]) rfl [_] ⟨rfl, trivial⟩ [] (by decide) [] rfl ⟨(by rw [Si.chk_none (by omega)]; rfl), rfl⟩)
   ·
    have p11 := of_decide_eq_false h9
    refine J.skip <| J.seq <| J.seq <| J.region <| O.p (Pu.fieldAddr (off' := 4) runUnderlying25 rfl sizeOf23 rfl rfl rfl) rfl <| O.q (Qt.ld rfl (Cel.var 2 rfl) (o := 0) (off := 4) rfl (Cut.one isAgg23 rfl)) rfl <| O.q (Qt.lenM runUnderlying23 rfl (Src.ro 0 rfl)) rfl <| O.m rfl rfl <| O.nil <| J.block <| J.loop (X := Nat) (fun ξ => ξ ≤ l.length ∧ Si.chkN b c l ξ = true) (fun ξ => [(1, .pointer (some ⟨g1, 0, none⟩)), (3, .pointer (some ⟨g5, 0, none⟩)), (41, sv), (42, .int .i64 (l.length : Int)), (43, .int .i64 (ξ : Int))]) (fun ξ => [var g8 [.int .u64 (Nat.cast n : Int), .int .i64 c, .int .i64 r] 61, var g5 [.int .i64 b, .int .i64 c] 57, var g1 [.int .i64 b, .int .i64 c, .int .i64 r, .int .u64 (Nat.cast n : Int), sv] 25]) (fun ξ => l.length - ξ) 0 (show 0 ≤ l.length ∧ Si.chkN b c l 0 = true from ⟨by omega, Si.chkN_zero⟩) ⟨rfl, rfl, rfl, rfl, (congrArg (fun z => some (Value.int .i64 z)) (by first | rfl | omega : (0 : Int) = (0 : Int))), trivial⟩ [0, 1, 2] (by decide) rfl ?_
    rintro k hq12
    obtain ⟨hk, hN⟩ : k ≤ l.length ∧ Si.chkN b c l k = true := hq12
    show J _ _ [(1, .pointer (some ⟨g1, 0, none⟩)), (3, .pointer (some ⟨g5, 0, none⟩)), (41, sv), (42, .int .i64 (l.length : Int)), (43, .int .i64 (k : Int))] [var g8 [.int .u64 (Nat.cast n : Int), .int .i64 c, .int .i64 r] 61, var g5 [.int .i64 b, .int .i64 c] 57, var g1 [.int .i64 b, .int .i64 c, .int .i64 r, .int .u64 (Nat.cast n : Int), sv] 25]
    refine J.seq <| J.region <| O.p (Pu.lss rfl rfl) rfl <| O.nil <| J.seq ?_
    refine J.cond rfl (fun h13 => ?_) (fun h13 => ?_)
    ·
     have p14 := of_decide_eq_true h13
     refine J.skip <| J.seq <| J.block <| J.seq ?_
     obtain ⟨e15, he15⟩ : ∃ x_, l[k]? = some x_ := ⟨_, List.getElem?_eq_getElem (by omega)⟩
     refine J.ros 1 rfl (A := rd e15.cv 4 (e15.cl.map Cl.cells)) (List.mem_map.2 ⟨e15, List.mem_of_getElem? he15, rfl⟩) <| J.region <| O.m rfl rfl <| O.q (Qt.idxM runUnderlying23 sizeOf47 rfl (Src.ro 0 rfl) rfl (by omega) (by omega)) rfl <| O.q (Qt.ld rfl (Cel.eltM (Src.ro 0 rfl) he15) (o := (voff sv + k * 14)) (off := 0) (by omega) (Cut.agg [.int .i64 e15.x0, .int .i64 e15.x1, .int .i64 e15.x2, .int .i64 e15.x3, .int .i64 e15.x4, .int .i64 e15.x5, .int .i64 e15.x6, .int .i64 e15.x7, .int .i64 e15.x8, .int .i64 e15.x9, .int .i64 e15.x10, .int .i64 e15.x11, .int .i64 e15.x12, e15.cv] isAgg47 sizeOf47 rfl rfl)) rfl <| O.l (Lo.alloc [.int .i64 0, .int .i64 0, .int .i64 0, .int .i64 0, .int .i64 0, .int .i64 0, .int .i64 0, .int .i64 0, .int .i64 0, .int .i64 0, .int .i64 0, .int .i64 0, .int .i64 0, Value.slice none 0 0] (by exact zeroValue47) rfl) rfl ?_
     rintro _ _ ⟨g16, rfl, rfl⟩
     refine O.a rfl rfl ?_
     refine O.one (Src.ro 2 rfl) (fun hV17 => ?_)
     refine O.l0 (Lo.store 0 (vs := [.int .i64 e15.x0, .int .i64 e15.x1, .int .i64 e15.x2, .int .i64 e15.x3, .int .i64 e15.x4, .int .i64 e15.x5, .int .i64 e15.x6, .int .i64 e15.x7, .int .i64 e15.x8, .int .i64 e15.x9, .int .i64 e15.x10, .int .i64 e15.x11, .int .i64 e15.x12, e15.cv]) [.int .i64 e15.x0, .int .i64 e15.x1, .int .i64 e15.x2, .int .i64 e15.x3, .int .i64 e15.x4, .int .i64 e15.x5, .int .i64 e15.x6, .int .i64 e15.x7, .int .i64 e15.x8, .int .i64 e15.x9, .int .i64 e15.x10, .int .i64 e15.x11, .int .i64 e15.x12, e15.cv] rfl rfl rfl (by exact sizeOf47) rfl rfl (by simp only [List.all_cons, List.all_nil, Bool.and_true, hV17] <;> rfl) rfl rfl) ?_
     rintro _ _ rfl
     refine O.nil <| J.seq <| J.drawHead 8 Tryz.mixed (by kernel_rfl) <| Hd.q (Qt.ld rfl (Cel.var 0 rfl) (o := 0) (off := 0) rfl (Cut.agg [.int .i64 e15.x0, .int .i64 e15.x1, .int .i64 e15.x2, .int .i64 e15.x3, .int .i64 e15.x4, .int .i64 e15.x5, .int .i64 e15.x6, .int .i64 e15.x7, .int .i64 e15.x8, .int .i64 e15.x9, .int .i64 e15.x10, .int .i64 e15.x11, .int .i64 e15.x12, e15.cv] isAgg47 sizeOf47 rfl rfl)) rfl <| Hd.p (Pu.move rfl) rfl <| Hd.p (Pu.fieldAddr (off' := 4) runUnderlying25 rfl sizeOf23 rfl rfl rfl) rfl <| Hd.q (Qt.ld rfl (Cel.var 3 rfl) (o := 0) (off := 4) rfl (Cut.one isAgg23 rfl)) rfl <| Hd.q (Qt.lenM runUnderlying23 rfl (Src.ro 0 rfl)) rfl <| Hd.p (Pu.fieldAddr (off' := 0) runUnderlying57 rfl sizeOf55 rfl rfl rfl) rfl <| Hd.q (Qt.ld rfl (Cel.var 2 rfl) (o := 0) (off := 0) rfl (Cut.agg [.int .i64 b, .int .i64 c] isAgg55 sizeOf55 rfl rfl)) rfl <| Hd.call (vs := [.agg #[.int .i64 b, .int .i64 c]]) (caps := []) (by exact call27) rfl rfl (lv_Levels b c ‹_›) (fun _ _ h => h) RoOk.nil rfl <| Hd.nil ?_
     refine O.l (Lo.call [.agg #[.int .i64 e15.x0, .int .i64 e15.x1, .int .i64 e15.x2, .int .i64 e15.x3, .int .i64 e15.x4, .int .i64 e15.x5, .int .i64 e15.x6, .int .i64 e15.x7, .int .i64 e15.x8, .int .i64 e15.x9, .int .i64 e15.x10, .int .i64 e15.x11, .int .i64 e15.x12, e15.cv], .int .i64 (k : Int), .int .i64 (l.length : Int), .int .i64 (b * c)] (by exact call26) rfl (cf_Check e15.x0 e15.x1 e15.x2 e15.x3 e15.x4 e15.x5 e15.x6 e15.x7 e15.x8 e15.x9 e15.x10 e15.x11 e15.x12 e15.cv e15.cl (k : Int) (l.length : Int) (b * c) (Nat.le_trans (hc _ (List.mem_of_getElem? ‹_›)) (by decide))) [] [0, 1, 2, 3] (by decide) rfl [var g16 [.int .i64 e15.x0, .int .i64 e15.x1, .int .i64 e15.x2, .int .i64 e15.x3, .int .i64 e15.x4, .int .i64 e15.x5, .int .i64 e15.x6, .int .i64 e15.x7, .int .i64 e15.x8, .int .i64 e15.x9, .int .i64 e15.x10, .int .i64 e15.x11, .int .i64 e15.x12, e15.cv] 47, var g8 [.int .u64 (Nat.cast n : Int), .int .i64 c, .int .i64 r] 61, var g5 [.int .i64 b, .int .i64 c] 57, var g1 [.int .i64 b, .int .i64 c, .int .i64 r, .int .u64 (Nat.cast n : Int), sv] 25] rfl (RoOk.ro 2 rfl [] rfl RoOk.nil)) rfl ?_
     rintro _ _ ⟨_, ⟨rfl, rfl⟩, rfl⟩
     refine O.a rfl rfl <| O.nil <| J.seq <| J.region <| O.m rfl rfl <| O.p (Pu.neq rfl rfl) rfl <| O.nil ?_
     refine J.cond rfl (fun h19 => ?_) (fun h19 => ?_)
     ·
      have p20 := of_decide_eq_true h19
      refine J.seq <| J.region <| O.m rfl rfl <| O.a rfl rfl <| O.nil ?_
      exact J.ret (Fin.ret (rs := [.tmp 2]) rfl [_] ⟨rfl, trivial⟩ [] (by decide) [] rfl ⟨(by rw [Si.chk_bad' he15 ‹_›]; rfl), rfl⟩)
     ·
      have p21 := of_decide_eq_false h19
      refine J.skip <| J.blk <| J.region <| O.p (Pu.add' rfl rfl (by first | omega | (simp only [List.length_append, List.length_cons, List.length_nil, List.length_set]; omega))) rfl <| O.m rfl rfl <| O.nil ?_
      exact J.lp (k + 1) (show (k + 1) ≤ l.length ∧ Si.chkN b c l (k + 1) = true from ⟨by omega, Si.chkN_next hN he15 (Decidable.not_not.1 ‹_›)⟩) (show l.length - (k + 1) < l.length - k from (by omega)) ⟨rfl, rfl, rfl, rfl, (congrArg (fun z => some (Value.int .i64 z)) (by first | rfl | omega : ((k : Int) + 1 : Int) = ((k + 1) : Int))), trivial⟩ [1, 2, 3] (by decide) rfl
    ·
     have p22 := of_decide_eq_false h13
     refine J.exit _ rfl <| J.seq <| J.region <| O.p (Pu.fieldAddr (off' := 4) runUnderlying25 rfl sizeOf23 rfl rfl rfl) rfl <| O.q (Qt.ld rfl (Cel.var 2 rfl) (o := 0) (off := 4) rfl (Cut.one isAgg23 rfl)) rfl <| O.l (Lo.call [sv] (by exact call28) rfl (g_Check sv l hl hc) [] [0, 1, 2] (by decide) rfl [var g8 [.int .u64 (Nat.cast n : Int), .int .i64 c, .int .i64 r] 61, var g5 [.int .i64 b, .int .i64 c] 57, var g1 [.int .i64 b, .int .i64 c, .int .i64 r, .int .u64 (Nat.cast n : Int), sv] 25] rfl (RoOk.ro 0 rfl [] rfl (RoOk.ro 1 rfl [] rfl RoOk.nil))) rfl ?_
     rintro _ _ ⟨_, ⟨rfl, rfl⟩, rfl⟩
     refine O.a rfl rfl <| O.nil ?_
     exact J.ret (Fin.ret (rs := [.tmp 2]) rfl [_] ⟨rfl, trivial⟩ [] (by decide) [] rfl ⟨(by rw [Si.chk_all ‹_› ‹_› (by omega) hN (by omega) (by omega)]; rfl), rfl⟩)
  ·
   refine J.region <| O.p (Pu.fieldAddr (off' := 3) runUnderlying25 rfl sizeOf22 rfl rfl rfl) rfl <| O.q (Qt.ld rfl (Cel.var 1 rfl) (o := 0) (off := 3) rfl (Cut.one isAgg22 rfl)) rfl <| O.p (Pu.fieldAddr (off' := 1) runUnderlying25 rfl sizeOf3 rfl rfl rfl) rfl <| O.q (Qt.ld rfl (Cel.var 1 rfl) (o := 0) (off := 1) rfl (Cut.one isAgg3 rfl)) rfl <| O.p (Pu.fieldAddr (off' := 2) runUnderlying25 rfl sizeOf3 rfl rfl rfl) rfl <| O.q (Qt.ld rfl (Cel.var 1 rfl) (o := 0) (off := 2) rfl (Cut.one isAgg3 rfl)) rfl <| O.l (Lo.call [.int .u64 (Nat.cast n : Int), .int .i64 c, .int .i64 r] (by exact call25) rfl (us_NewNo n c r h6) [] [0, 1] (by decide) rfl [var g5 [.int .i64 b, .int .i64 c] 57, var g1 [.int .i64 b, .int .i64 c, .int .i64 r, .int .u64 (Nat.cast n : Int), sv] 25] rfl RoOk.nil) rfl ?_
   rintro _ _ ⟨_, ⟨rfl, rfl⟩, rfl⟩
   refine O.m rfl rfl <| O.p (Pu.extract rfl rfl) rfl <| O.p (Pu.extract rfl rfl) rfl <| O.l (Lo.alloc [.int .u64 0, .int .i64 0, .int .i64 0] (by exact zeroValue61) rfl) rfl ?_
   rintro _ _ ⟨g25, rfl, rfl⟩
   refine O.l0 (Lo.store 0 (vs := [.int .u64 0, .int .i64 0, .int .i64 0]) [.int .u64 0, .int .i64 0, .int .i64 0] rfl rfl rfl (by exact sizeOf61) rfl rfl rfl rfl rfl) ?_
   rintro _ _ rfl
   refine O.a rfl rfl <| O.nil <| J.seq <| J.seq <| J.region <| O.m rfl rfl <| O.p (Pu.neq rfl rfl) rfl <| O.m rfl rfl <| O.gq (t := 30) rfl rfl rfl rfl (Pu.qt (Pu.move rfl)) rfl <| O.gq (t := 30) rfl rfl rfl rfl (Pu.qt (Pu.neq rfl rfl)) rfl <| O.p (Pu.pickF rfl rfl rfl) rfl <| O.m rfl rfl ?_
   refine O.gskip (t := 34) rfl rfl (no_bool (by decide)) rfl rfl <| O.gskip (t := 34) rfl rfl (no_bool (by decide)) rfl rfl <| O.gskip (t := 34) rfl rfl (no_bool (by decide)) rfl rfl <| O.gskip (t := 34) rfl rfl (no_bool (by decide)) rfl rfl <| O.p (Pu.pickT rfl rfl rfl) rfl <| O.nil <| J.condT rfl rfl <| J.seq <| J.region <| O.a rfl rfl <| O.nil ?_
   exact J.ret (Fin.ret (rs := [.tmp 2]) rfl [_] ⟨rfl, trivial⟩ [] (by decide) [] rfl ⟨(by rw [Si.chk_badU ‹_›]; rfl), rfl⟩)
 ·
  refine J.region <| O.p (Pu.fieldAddr (off' := 0) runUnderlying25 rfl sizeOf3 rfl rfl rfl) rfl <| O.q (Qt.ld rfl (Cel.var 0 rfl) (o := 0) (off := 0) rfl (Cut.one isAgg3 rfl)) rfl <| O.p (Pu.fieldAddr (off' := 1) runUnderlying25 rfl sizeOf3 rfl rfl rfl) rfl <| O.q (Qt.ld rfl (Cel.var 0 rfl) (o := 0) (off := 1) rfl (Cut.one isAgg3 rfl)) rfl <| O.l (Lo.call [.int .i64 b, .int .i64 c] (by exact call24) rfl (lv_NewNo b c h3) [] [0] (by decide) rfl [var g1 [.int .i64 b, .int .i64 c, .int .i64 r, .int .u64 (Nat.cast n : Int), sv] 25] rfl RoOk.nil) rfl ?_
  rintro _ _ ⟨_, ⟨rfl, rfl⟩, rfl⟩
  refine O.m rfl rfl <| O.p (Pu.extract rfl rfl) rfl <| O.p (Pu.extract rfl rfl) rfl <| O.l (Lo.alloc [.int .i64 0, .int .i64 0] (by exact zeroValue57) rfl) rfl ?_
  rintro _ _ ⟨g27, rfl, rfl⟩
  refine O.l0 (Lo.store 0 (vs := [.int .i64 0, .int .i64 0]) [.int .i64 0, .int .i64 0] rfl rfl rfl (by exact sizeOf57) rfl rfl rfl rfl rfl) ?_
  rintro _ _ rfl
  refine O.a rfl rfl <| O.nil <| J.seq ?_
  refine by_bool (Si.okU c r) (fun h28 => ?_) (fun h28 => ?_)
  ·
   refine J.region <| O.p (Pu.fieldAddr (off' := 3) runUnderlying25 rfl sizeOf22 rfl rfl rfl) rfl <| O.q (Qt.ld rfl (Cel.var 1 rfl) (o := 0) (off := 3) rfl (Cut.one isAgg22 rfl)) rfl <| O.p (Pu.fieldAddr (off' := 1) runUnderlying25 rfl sizeOf3 rfl rfl rfl) rfl <| O.q (Qt.ld rfl (Cel.var 1 rfl) (o := 0) (off := 1) rfl (Cut.one isAgg3 rfl)) rfl <| O.p (Pu.fieldAddr (off' := 2) runUnderlying25 rfl sizeOf3 rfl rfl rfl) rfl <| O.q (Qt.ld rfl (Cel.var 1 rfl) (o := 0) (off := 2) rfl (Cut.one isAgg3 rfl)) rfl <| O.l (Lo.call [.int .u64 (Nat.cast n : Int), .int .i64 c, .int .i64 r] (by exact call25) rfl (us_New n c r h28) [] [0, 1] (by decide) rfl [var g27 [.int .i64 0, .int .i64 0] 57, var g1 [.int .i64 b, .int .i64 c, .int .i64 r, .int .u64 (Nat.cast n : Int), sv] 25] rfl RoOk.nil) rfl ?_
   rintro _ _ ⟨_, ⟨rfl, rfl⟩, rfl⟩
   refine O.m rfl rfl <| O.p (Pu.extract rfl rfl) rfl <| O.p (Pu.extract rfl rfl) rfl <| O.l (Lo.alloc [.int .u64 0, .int .i64 0, .int .i64 0] (by exact zeroValue61) rfl) rfl ?_
   rintro _ _ ⟨g30, rfl, rfl⟩
   refine O.l0 (Lo.store 0 (vs := [.int .u64 (Nat.cast n : Int), .int .i64 c, .int .i64 r]) [.int .u64 (Nat.cast n : Int), .int .i64 c, .int .i64 r] rfl rfl rfl (by exact sizeOf61) rfl rfl rfl rfl rfl) ?_
   rintro _ _ rfl
   refine O.a rfl rfl <| O.nil <| J.seq <| J.seq <| J.region <| O.m rfl rfl <| O.p (Pu.neq rfl rfl) rfl <| O.m rfl rfl <| O.gskip (t := 30) rfl rfl (no_bool (by decide)) rfl rfl <| O.gskip (t := 30) rfl rfl (no_bool (by decide)) rfl rfl <| O.p (Pu.pickT rfl rfl rfl) rfl <| O.m rfl rfl ?_
   refine O.gskip (t := 34) rfl rfl (no_bool (by decide)) rfl rfl <| O.gskip (t := 34) rfl rfl (no_bool (by decide)) rfl rfl <| O.gskip (t := 34) rfl rfl (no_bool (by decide)) rfl rfl <| O.gskip (t := 34) rfl rfl (no_bool (by decide)) rfl rfl <| O.p (Pu.pickT rfl rfl rfl) rfl <| O.nil <| J.condT rfl rfl <| J.seq <| J.region <| O.a rfl rfl <| O.nil ?_
   exact J.ret (Fin.ret (rs := [.tmp 2]) rfl [_] ⟨rfl, trivial⟩ [] (by decide) [] rfl ⟨(by rw [Si.chk_badL ‹_›]; rfl), rfl⟩)
  ·
   refine J.region <| O.p (Pu.fieldAddr (off' := 3) runUnderlying25 rfl sizeOf22 rfl rfl rfl) rfl <| O.q (Qt.ld rfl (Cel.var 1 rfl) (o := 0) (off := 3) rfl (Cut.one isAgg22 rfl)) rfl <| O.p (Pu.fieldAddr (off' := 1) runUnderlying25 rfl sizeOf3 rfl rfl rfl) rfl <| O.q (Qt.ld rfl (Cel.var 1 rfl) (o := 0) (off := 1) rfl (Cut.one isAgg3 rfl)) rfl <| O.p (Pu.fieldAddr (off' := 2) runUnderlying25 rfl sizeOf3 rfl rfl rfl) rfl <| O.q (Qt.ld rfl (Cel.var 1 rfl) (o := 0) (off := 2) rfl (Cut.one isAgg3 rfl)) rfl <| O.l (Lo.call [.int .u64 (Nat.cast n : Int), .int .i64 c, .int .i64 r] (by exact call25) rfl (us_NewNo n c r h28) [] [0, 1] (by decide) rfl [var g27 [.int .i64 0, .int .i64 0] 57, var g1 [.int .i64 b, .int .i64 c, .int .i64 r, .int .u64 (Nat.cast n : Int), sv] 25] rfl RoOk.nil) rfl ?_
   rintro _ _ ⟨_, ⟨rfl, rfl⟩, rfl⟩
   refine O.m rfl rfl <| O.p (Pu.extract rfl rfl) rfl <| O.p (Pu.extract rfl rfl) rfl <| O.l (Lo.alloc [.int .u64 0, .int .i64 0, .int .i64 0] (by exact zeroValue61) rfl) rfl ?_
   rintro _ _ ⟨g32, rfl, rfl⟩
   refine O.l0 (Lo.store 0 (vs := [.int .u64 0, .int .i64 0, .int .i64 0]) [.int .u64 0, .int .i64 0, .int .i64 0] rfl rfl rfl (by exact sizeOf61) rfl rfl rfl rfl rfl) ?_
   rintro _ _ rfl
   refine O.a rfl rfl <| O.nil <| J.seq <| J.seq <| J.region <| O.m rfl rfl <| O.p (Pu.neq rfl rfl) rfl <| O.m rfl rfl <| O.gskip (t := 30) rfl rfl (no_bool (by decide)) rfl rfl <| O.gskip (t := 30) rfl rfl (no_bool (by decide)) rfl rfl <| O.p (Pu.pickT rfl rfl rfl) rfl <| O.m rfl rfl ?_
   refine O.gskip (t := 34) rfl rfl (no_bool (by decide)) rfl rfl <| O.gskip (t := 34) rfl rfl (no_bool (by decide)) rfl rfl <| O.gskip (t := 34) rfl rfl (no_bool (by decide)) rfl rfl <| O.gskip (t := 34) rfl rfl (no_bool (by decide)) rfl rfl <| O.p (Pu.pickT rfl rfl rfl) rfl <| O.nil <| J.condT rfl rfl <| J.seq <| J.region <| O.a rfl rfl <| O.nil ?_
   exact J.ret (Fin.ret (rs := [.tmp 2]) rfl [_] ⟨rfl, trivial⟩ [] (by decide) [] rfl ⟨(by rw [Si.chk_badL ‹_›]; rfl), rfl⟩)

end Go.Proofs.YtnhfgnnpbipcnaaGreatDoor
