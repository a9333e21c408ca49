/-
  Walks, printed by a program of mine (lk.py): each function meets its contract.
-/
import Derived.KernelRfl
import Derived.Test.YtnhfgnnpbipcnaaGreatDoorKX1
namespace Go.Proofs.YtnhfgnnpbipcnaaGreatDoor
open Go Go.LK Go.Proofs.Tryz
set_option linter.unusedSimpArgs false

set_option maxRecDepth 100000 in
theorem kn_Check (a b c d e f g : Int) (m : Int) : Tri prog 59 #[.agg #[.int .i64 a, .int .i64 b, .int .i64 c, .int .i64 d, .int .i64 e, .int .i64 f, .int .i64 g], .int .i64 m] [] [] (fun v L' => v = .int .i64 (Kn.check [a, b, c, d, e, f, g] m) ∧ L' = []) := by
 refine Tri.enter (args := [.agg #[.int .i64 a, .int .i64 b, .int .i64 c, .int .i64 d, .int .i64 e, .int .i64 f, .int .i64 g], .int .i64 m]) (body := _) 46 func59 rfl ntmps59 rfl ?_
 intro w0
 refine J.seq <| J.region <| O.l (Lo.box [.int .i64 a, .int .i64 b, .int .i64 c, .int .i64 d, .int .i64 e, .int .i64 f, .int .i64 g] rfl rfl) rfl ?_
 rintro _ _ ⟨g1, rfl, rfl⟩
 refine O.a rfl rfl <| O.nil <| J.seq <| J.seq <| J.region <| O.m rfl rfl <| O.p (Pu.lss rfl rfl) rfl <| O.m rfl rfl ?_
 refine by_bool (decide (m < 1)) (fun h2 => ?_) (fun h2 => ?_)
 ·
  have p3 := of_decide_eq_true h2
  refine O.gskip (t := 11) rfl rfl (no_bool (by rw [h2]; decide)) rfl rfl <| O.gskip (t := 11) rfl rfl (no_bool (by rw [h2]; decide)) rfl rfl <| O.p (Pu.pickT rfl h2 rfl) rfl <| O.nil <| J.condT rfl rfl <| J.seq <| J.region <| O.a rfl rfl <| O.nil ?_
  exact J.ret (Fin.ret (rs := [.tmp 4]) rfl [_] ⟨rfl, trivial⟩ [] (by decide) [] rfl ⟨(by rw [Kn.check_no (by omega)]; rfl), rfl⟩)
 ·
  have p4 := of_decide_eq_false h2
  refine O.gq (t := 11) rfl rfl h2 rfl (Pu.qt (Pu.move rfl)) rfl <| O.gq (t := 11) rfl rfl h2 rfl (Pu.qt (Pu.gtr rfl rfl)) rfl <| O.p (Pu.pickF rfl h2 rfl) rfl <| O.nil ?_
  refine J.cond rfl (fun h5 => ?_) (fun h5 => ?_)
  ·
   have p6 := of_decide_eq_true h5
   refine J.seq <| J.region <| O.a rfl rfl <| O.nil ?_
   exact J.ret (Fin.ret (rs := [.tmp 4]) rfl [_] ⟨rfl, trivial⟩ [] (by decide) [] rfl ⟨(by rw [Kn.check_no (by omega)]; rfl), rfl⟩)
  ·
   have p7 := of_decide_eq_false h5
   refine J.skip <| J.seq <| J.region <| O.p (Pu.fieldAddr (off' := 1) runUnderlying44 rfl sizeOf3 rfl rfl rfl) rfl <| O.q (Qt.ld rfl (Cel.var 0 rfl) (o := 0) (off := 1) rfl (Cut.one isAgg3 rfl)) rfl <| O.p (Pu.buildA [(0, .int .i64 0), (1, .int .i64 b)] [.int .i64 0, .int .i64 b] runUnderlying126 zeroValue126 sizeOf3 rfl (by kernel_rfl)) rfl <| O.p (Pu.buildA [(0, .int .i64 0), (1, .int .i64 10000)] [.int .i64 0, .int .i64 10000] runUnderlying126 zeroValue126 sizeOf3 rfl (by kernel_rfl)) rfl <| O.p (Pu.buildA [(0, .int .i64 1), (1, .int .i64 99)] [.int .i64 1, .int .i64 99] runUnderlying126 zeroValue126 sizeOf3 rfl (by kernel_rfl)) rfl <| O.p (Pu.buildA [(0, .int .i64 1), (1, .int .i64 100)] [.int .i64 1, .int .i64 100] runUnderlying126 zeroValue126 sizeOf3 rfl (by kernel_rfl)) rfl <| O.m rfl rfl <| O.p (Pu.buildA [(0, .int .i64 0), (1, .int .i64 m)] [.int .i64 0, .int .i64 m] runUnderlying126 zeroValue126 sizeOf3 rfl (by kernel_rfl)) rfl <| O.p (Pu.buildA [(0, .int .i64 1), (1, .int .i64 32)] [.int .i64 1, .int .i64 32] runUnderlying126 zeroValue126 sizeOf3 rfl (by kernel_rfl)) rfl ?_
   refine O.p (Pu.buildA [(0, .int .i64 1), (1, .int .i64 32)] [.int .i64 1, .int .i64 32] runUnderlying126 zeroValue126 sizeOf3 rfl (by kernel_rfl)) rfl <| O.p (Pu.buildA [(0, .agg #[.int .i64 0, .int .i64 b]), (1, .agg #[.int .i64 0, .int .i64 10000]), (2, .agg #[.int .i64 1, .int .i64 99]), (3, .agg #[.int .i64 1, .int .i64 100]), (4, .agg #[.int .i64 0, .int .i64 m]), (5, .agg #[.int .i64 1, .int .i64 32]), (6, .agg #[.int .i64 1, .int .i64 32])] [.int .i64 0, .int .i64 b, .int .i64 0, .int .i64 10000, .int .i64 1, .int .i64 99, .int .i64 1, .int .i64 100, .int .i64 0, .int .i64 m, .int .i64 1, .int .i64 32, .int .i64 1, .int .i64 32] runUnderlying127 zeroValue127 sizeOf126 rfl (by kernel_rfl)) rfl <| O.l (Lo.alloc [.int .i64 0, .int .i64 0, .int .i64 0, .int .i64 0, .int .i64 0, .int .i64 0, .int .i64 0, .int .i64 0, .int .i64 0, .int .i64 0, .int .i64 0, .int .i64 0, .int .i64 0, .int .i64 0] (by exact zeroValue127) rfl) rfl ?_
   rintro _ _ ⟨g8, rfl, rfl⟩
   refine O.l0 (Lo.store 0 (vs := [.int .i64 0, .int .i64 b, .int .i64 0, .int .i64 10000, .int .i64 1, .int .i64 99, .int .i64 1, .int .i64 100, .int .i64 0, .int .i64 m, .int .i64 1, .int .i64 32, .int .i64 1, .int .i64 32]) [.int .i64 0, .int .i64 b, .int .i64 0, .int .i64 10000, .int .i64 1, .int .i64 99, .int .i64 1, .int .i64 100, .int .i64 0, .int .i64 m, .int .i64 1, .int .i64 32, .int .i64 1, .int .i64 32] rfl rfl rfl (by exact sizeOf127) rfl rfl rfl rfl rfl) ?_
   rintro _ _ rfl
   refine O.nil <| J.seq <| J.seq <| J.region <| O.q (Qt.ld rfl (Cel.var 0 rfl) (o := 0) (off := 0) rfl (Cut.agg [.int .i64 0, .int .i64 b, .int .i64 0, .int .i64 10000, .int .i64 1, .int .i64 99, .int .i64 1, .int .i64 100, .int .i64 0, .int .i64 m, .int .i64 1, .int .i64 32, .int .i64 1, .int .i64 32] isAgg127 sizeOf127 rfl rfl)) rfl <| O.m rfl rfl <| O.nil <| J.block <| J.loop (X := Nat) (fun ξ => ξ ≤ 7 ∧ 1 ≤ m ∧ m ≤ 128 ∧ (1 ≤ ξ → 0 ≤ a ∧ a ≤ b) ∧ (2 ≤ ξ → 0 ≤ b ∧ b ≤ 10000) ∧ (3 ≤ ξ → 1 ≤ c ∧ c ≤ 99) ∧ (4 ≤ ξ → 1 ≤ d ∧ d ≤ 100) ∧ (5 ≤ ξ → 0 ≤ e ∧ e ≤ m) ∧ (6 ≤ ξ → 1 ≤ f ∧ f ≤ 32) ∧ (7 ≤ ξ → 1 ≤ g ∧ g ≤ 32)) (fun ξ => [(2, .pointer (some ⟨g1, 0, none⟩)), (26, .agg #[.int .i64 0, .int .i64 b, .int .i64 0, .int .i64 10000, .int .i64 1, .int .i64 99, .int .i64 1, .int .i64 100, .int .i64 0, .int .i64 m, .int .i64 1, .int .i64 32, .int .i64 1, .int .i64 32]), (27, .int .i64 (ξ : Int))]) (fun ξ => [var g1 [.int .i64 a, .int .i64 b, .int .i64 c, .int .i64 d, .int .i64 e, .int .i64 f, .int .i64 g] 44]) (fun ξ => 7 - ξ) 0 (show 0 ≤ 7 ∧ 1 ≤ m ∧ m ≤ 128 ∧ (1 ≤ 0 → 0 ≤ a ∧ a ≤ b) ∧ (2 ≤ 0 → 0 ≤ b ∧ b ≤ 10000) ∧ (3 ≤ 0 → 1 ≤ c ∧ c ≤ 99) ∧ (4 ≤ 0 → 1 ≤ d ∧ d ≤ 100) ∧ (5 ≤ 0 → 0 ≤ e ∧ e ≤ m) ∧ (6 ≤ 0 → 1 ≤ f ∧ f ≤ 32) ∧ (7 ≤ 0 → 1 ≤ g ∧ g ≤ 32) from ⟨by omega, by omega, by omega, by omega, by omega, by omega, by omega, by omega, by omega, by omega⟩) ⟨rfl, rfl, (congrArg (fun z => some (Value.int .i64 z)) (by first | rfl | omega : (0 : Int) = (0 : Int))), trivial⟩ [1] (by decide) rfl ?_
   rintro k hq9
   obtain ⟨hk, hm0, hm1, q1, q2, q3, q4, q5, q6, q7⟩ : k ≤ 7 ∧ 1 ≤ m ∧ m ≤ 128 ∧ (1 ≤ k → 0 ≤ a ∧ a ≤ b) ∧ (2 ≤ k → 0 ≤ b ∧ b ≤ 10000) ∧ (3 ≤ k → 1 ≤ c ∧ c ≤ 99) ∧ (4 ≤ k → 1 ≤ d ∧ d ≤ 100) ∧ (5 ≤ k → 0 ≤ e ∧ e ≤ m) ∧ (6 ≤ k → 1 ≤ f ∧ f ≤ 32) ∧ (7 ≤ k → 1 ≤ g ∧ g ≤ 32) := hq9
   show J _ _ [(2, .pointer (some ⟨g1, 0, none⟩)), (26, .agg #[.int .i64 0, .int .i64 b, .int .i64 0, .int .i64 10000, .int .i64 1, .int .i64 99, .int .i64 1, .int .i64 100, .int .i64 0, .int .i64 m, .int .i64 1, .int .i64 32, .int .i64 1, .int .i64 32]), (27, .int .i64 (k : Int))] [var g1 [.int .i64 a, .int .i64 b, .int .i64 c, .int .i64 d, .int .i64 e, .int .i64 f, .int .i64 g] 44]
   obtain rfl | rfl | rfl | rfl | rfl | rfl | rfl | rfl : k = 0 ∨ k = 1 ∨ k = 2 ∨ k = 3 ∨ k = 4 ∨ k = 5 ∨ k = 6 ∨ k = 7 := by omega
   ·
    show J _ _ [(2, .pointer (some ⟨g1, 0, none⟩)), (26, .agg #[.int .i64 0, .int .i64 b, .int .i64 0, .int .i64 10000, .int .i64 1, .int .i64 99, .int .i64 1, .int .i64 100, .int .i64 0, .int .i64 m, .int .i64 1, .int .i64 32, .int .i64 1, .int .i64 32]), (27, .int .i64 0)] [var g1 [.int .i64 a, .int .i64 b, .int .i64 c, .int .i64 d, .int .i64 e, .int .i64 f, .int .i64 g] 44]
    refine J.seq <| J.region <| O.p (Pu.lss rfl rfl) rfl <| O.nil <| J.seq <| J.condT rfl rfl <| J.skip <| J.seq <| J.block <| J.seq <| J.region <| O.m rfl rfl ?_
    refine O.p (Pu.indexK (cs := [.int .i64 0, .int .i64 b, .int .i64 0, .int .i64 10000, .int .i64 1, .int .i64 99, .int .i64 1, .int .i64 100, .int .i64 0, .int .i64 m, .int .i64 1, .int .i64 32, .int .i64 1, .int .i64 32]) [.int .i64 0, .int .i64 b] runUnderlying127 sizeOf126 isAgg126 rfl rfl (by decide) (by decide) rfl) rfl <| O.l (Lo.alloc [.int .i64 0, .int .i64 0] (by exact zeroValue126) rfl) rfl ?_
    rintro _ _ ⟨g10, rfl, rfl⟩
    refine O.a rfl rfl <| O.l0 (Lo.store 0 (vs := [.int .i64 0, .int .i64 b]) [.int .i64 0, .int .i64 b] rfl rfl rfl (by exact sizeOf126) rfl rfl rfl rfl rfl) ?_
    rintro _ _ rfl
    refine O.nil <| J.seq <| J.region <| O.m rfl rfl <| O.l (Lo.call [.pointer (some ⟨g1, 0, none⟩), .int .i64 0] (by exact call96) rfl (kn_field g1 0 (by first | omega | decide) (by first | omega | decide)) [] [0, 1] (by decide) rfl [var g10 [.int .i64 0, .int .i64 b] 126, var g1 [.int .i64 a, .int .i64 b, .int .i64 c, .int .i64 d, .int .i64 e, .int .i64 f, .int .i64 g] 44] rfl RoOk.nil) rfl ?_
    rintro _ _ ⟨_, ⟨rfl, rfl⟩, rfl⟩
    refine O.p (Pu.nilCheck rfl) rfl <| O.q (Qt.ld rfl (Cel.var 1 rfl) (o := 0) (off := 0) rfl (Cut.one isAgg3 rfl)) rfl <| O.a rfl rfl <| O.nil <| J.seq <| J.region <| O.m rfl rfl <| O.p (Pu.indexAddrK 0 runUnderlying126 sizeOf3 rfl rfl (by decide) (by decide) rfl) rfl <| O.q (Qt.ld rfl (Cel.var 0 rfl) (o := 0) (off := 0) rfl (Cut.one isAgg3 rfl)) rfl <| O.p (Pu.lss rfl rfl) rfl <| O.m rfl rfl ?_
    refine by_bool (decide (a < 0)) (fun h12 => ?_) (fun h12 => ?_)
    ·
     have p13 := of_decide_eq_true h12
     refine O.gskip (t := 39) rfl rfl (no_bool (by rw [h12]; decide)) rfl rfl <| O.gskip (t := 39) rfl rfl (no_bool (by rw [h12]; decide)) rfl rfl <| O.gskip (t := 39) rfl rfl (no_bool (by rw [h12]; decide)) rfl rfl <| O.gskip (t := 39) rfl rfl (no_bool (by rw [h12]; decide)) rfl rfl <| O.p (Pu.pickT rfl h12 rfl) rfl <| O.nil <| J.condT rfl rfl <| J.seq <| J.region <| O.a rfl rfl <| O.nil ?_
     exact J.ret (Fin.ret (rs := [.tmp 4]) rfl [_] ⟨rfl, trivial⟩ [] (by decide) [] rfl ⟨(by rw [Kn.check_no (by omega)]; rfl), rfl⟩)
    ·
     have p14 := of_decide_eq_false h12
     refine O.gq (t := 39) rfl rfl h12 rfl (Pu.qt (Pu.move rfl)) rfl <| O.gq (t := 39) rfl rfl h12 rfl (Pu.qt (Pu.indexAddrK 1 runUnderlying126 sizeOf3 rfl rfl (by decide) (by decide) rfl)) rfl <| O.gq (t := 39) rfl rfl h12 rfl (Qt.ld rfl (Cel.var 0 rfl) (o := 0) (off := 1) rfl (Cut.one isAgg3 rfl)) rfl <| O.gq (t := 39) rfl rfl h12 rfl (Pu.qt (Pu.gtr rfl rfl)) rfl <| O.p (Pu.pickF rfl h12 rfl) rfl <| O.nil ?_
     refine J.cond rfl (fun h15 => ?_) (fun h15 => ?_)
     ·
      have p16 := of_decide_eq_true h15
      refine J.seq <| J.region <| O.a rfl rfl <| O.nil ?_
      exact J.ret (Fin.ret (rs := [.tmp 4]) rfl [_] ⟨rfl, trivial⟩ [] (by decide) [] rfl ⟨(by rw [Kn.check_no (by omega)]; rfl), rfl⟩)
     ·
      have p17 := of_decide_eq_false h15
      refine J.skip <| J.blk <| J.region <| O.p (Pu.add' rfl rfl (by first | omega | (simp only [List.length_append, List.length_cons, List.length_nil, List.length_set]; omega))) rfl <| O.m rfl rfl <| O.nil ?_
      exact J.lp 1 (show 1 ≤ 7 ∧ 1 ≤ m ∧ m ≤ 128 ∧ (1 ≤ 1 → 0 ≤ a ∧ a ≤ b) ∧ (2 ≤ 1 → 0 ≤ b ∧ b ≤ 10000) ∧ (3 ≤ 1 → 1 ≤ c ∧ c ≤ 99) ∧ (4 ≤ 1 → 1 ≤ d ∧ d ≤ 100) ∧ (5 ≤ 1 → 0 ≤ e ∧ e ≤ m) ∧ (6 ≤ 1 → 1 ≤ f ∧ f ≤ 32) ∧ (7 ≤ 1 → 1 ≤ g ∧ g ≤ 32) from ⟨by omega, by omega, by omega, by omega, by omega, by omega, by omega, by omega, by omega, by omega⟩) (show 7 - 1 < 7 - 0 from (by first | omega | decide)) ⟨rfl, rfl, (congrArg (fun z => some (Value.int .i64 z)) (by first | rfl | omega : (0 + 1 : Int) = (1 : Int))), trivial⟩ [1] (by decide) rfl
   ·
    show J _ _ [(2, .pointer (some ⟨g1, 0, none⟩)), (26, .agg #[.int .i64 0, .int .i64 b, .int .i64 0, .int .i64 10000, .int .i64 1, .int .i64 99, .int .i64 1, .int .i64 100, .int .i64 0, .int .i64 m, .int .i64 1, .int .i64 32, .int .i64 1, .int .i64 32]), (27, .int .i64 1)] [var g1 [.int .i64 a, .int .i64 b, .int .i64 c, .int .i64 d, .int .i64 e, .int .i64 f, .int .i64 g] 44]
    refine J.seq <| J.region <| O.p (Pu.lss rfl rfl) rfl <| O.nil <| J.seq <| J.condT rfl rfl <| J.skip <| J.seq <| J.block <| J.seq <| J.region <| O.m rfl rfl ?_
    refine O.p (Pu.indexK (cs := [.int .i64 0, .int .i64 b, .int .i64 0, .int .i64 10000, .int .i64 1, .int .i64 99, .int .i64 1, .int .i64 100, .int .i64 0, .int .i64 m, .int .i64 1, .int .i64 32, .int .i64 1, .int .i64 32]) [.int .i64 0, .int .i64 10000] runUnderlying127 sizeOf126 isAgg126 rfl rfl (by decide) (by decide) rfl) rfl <| O.l (Lo.alloc [.int .i64 0, .int .i64 0] (by exact zeroValue126) rfl) rfl ?_
    rintro _ _ ⟨g18, rfl, rfl⟩
    refine O.a rfl rfl <| O.l0 (Lo.store 0 (vs := [.int .i64 0, .int .i64 10000]) [.int .i64 0, .int .i64 10000] rfl rfl rfl (by exact sizeOf126) rfl rfl rfl rfl rfl) ?_
    rintro _ _ rfl
    refine O.nil <| J.seq <| J.region <| O.m rfl rfl <| O.l (Lo.call [.pointer (some ⟨g1, 0, none⟩), .int .i64 1] (by exact call96) rfl (kn_field g1 1 (by first | omega | decide) (by first | omega | decide)) [] [0, 1] (by decide) rfl [var g18 [.int .i64 0, .int .i64 10000] 126, var g1 [.int .i64 a, .int .i64 b, .int .i64 c, .int .i64 d, .int .i64 e, .int .i64 f, .int .i64 g] 44] rfl RoOk.nil) rfl ?_
    rintro _ _ ⟨_, ⟨rfl, rfl⟩, rfl⟩
    refine O.p (Pu.nilCheck rfl) rfl <| O.q (Qt.ld rfl (Cel.var 1 rfl) (o := 0) (off := 1) rfl (Cut.one isAgg3 rfl)) rfl <| O.a rfl rfl <| O.nil <| J.seq <| J.region <| O.m rfl rfl <| O.p (Pu.indexAddrK 0 runUnderlying126 sizeOf3 rfl rfl (by decide) (by decide) rfl) rfl <| O.q (Qt.ld rfl (Cel.var 0 rfl) (o := 0) (off := 0) rfl (Cut.one isAgg3 rfl)) rfl <| O.p (Pu.lss rfl rfl) rfl <| O.m rfl rfl ?_
    refine by_bool (decide (b < 0)) (fun h20 => ?_) (fun h20 => ?_)
    ·
     have p21 := of_decide_eq_true h20
     refine O.gskip (t := 39) rfl rfl (no_bool (by rw [h20]; decide)) rfl rfl <| O.gskip (t := 39) rfl rfl (no_bool (by rw [h20]; decide)) rfl rfl <| O.gskip (t := 39) rfl rfl (no_bool (by rw [h20]; decide)) rfl rfl <| O.gskip (t := 39) rfl rfl (no_bool (by rw [h20]; decide)) rfl rfl <| O.p (Pu.pickT rfl h20 rfl) rfl <| O.nil <| J.condT rfl rfl <| J.seq <| J.region <| O.a rfl rfl <| O.nil ?_
     exact J.ret (Fin.ret (rs := [.tmp 4]) rfl [_] ⟨rfl, trivial⟩ [] (by decide) [] rfl ⟨(by rw [Kn.check_no (by omega)]; rfl), rfl⟩)
    ·
     have p22 := of_decide_eq_false h20
     refine O.gq (t := 39) rfl rfl h20 rfl (Pu.qt (Pu.move rfl)) rfl <| O.gq (t := 39) rfl rfl h20 rfl (Pu.qt (Pu.indexAddrK 1 runUnderlying126 sizeOf3 rfl rfl (by decide) (by decide) rfl)) rfl <| O.gq (t := 39) rfl rfl h20 rfl (Qt.ld rfl (Cel.var 0 rfl) (o := 0) (off := 1) rfl (Cut.one isAgg3 rfl)) rfl <| O.gq (t := 39) rfl rfl h20 rfl (Pu.qt (Pu.gtr rfl rfl)) rfl <| O.p (Pu.pickF rfl h20 rfl) rfl <| O.nil ?_
     refine J.cond rfl (fun h23 => ?_) (fun h23 => ?_)
     ·
      have p24 := of_decide_eq_true h23
      refine J.seq <| J.region <| O.a rfl rfl <| O.nil ?_
      exact J.ret (Fin.ret (rs := [.tmp 4]) rfl [_] ⟨rfl, trivial⟩ [] (by decide) [] rfl ⟨(by rw [Kn.check_no (by omega)]; rfl), rfl⟩)
     ·
      have p25 := of_decide_eq_false h23
      refine J.skip <| J.blk <| J.region <| O.p (Pu.add' rfl rfl (by first | omega | (simp only [List.length_append, List.length_cons, List.length_nil, List.length_set]; omega))) rfl <| O.m rfl rfl <| O.nil ?_
      exact J.lp 2 (show 2 ≤ 7 ∧ 1 ≤ m ∧ m ≤ 128 ∧ (1 ≤ 2 → 0 ≤ a ∧ a ≤ b) ∧ (2 ≤ 2 → 0 ≤ b ∧ b ≤ 10000) ∧ (3 ≤ 2 → 1 ≤ c ∧ c ≤ 99) ∧ (4 ≤ 2 → 1 ≤ d ∧ d ≤ 100) ∧ (5 ≤ 2 → 0 ≤ e ∧ e ≤ m) ∧ (6 ≤ 2 → 1 ≤ f ∧ f ≤ 32) ∧ (7 ≤ 2 → 1 ≤ g ∧ g ≤ 32) from ⟨by omega, by omega, by omega, by omega, by omega, by omega, by omega, by omega, by omega, by omega⟩) (show 7 - 2 < 7 - 1 from (by first | omega | decide)) ⟨rfl, rfl, (congrArg (fun z => some (Value.int .i64 z)) (by first | rfl | omega : (1 + 1 : Int) = (2 : Int))), trivial⟩ [1] (by decide) rfl
   ·
    show J _ _ [(2, .pointer (some ⟨g1, 0, none⟩)), (26, .agg #[.int .i64 0, .int .i64 b, .int .i64 0, .int .i64 10000, .int .i64 1, .int .i64 99, .int .i64 1, .int .i64 100, .int .i64 0, .int .i64 m, .int .i64 1, .int .i64 32, .int .i64 1, .int .i64 32]), (27, .int .i64 2)] [var g1 [.int .i64 a, .int .i64 b, .int .i64 c, .int .i64 d, .int .i64 e, .int .i64 f, .int .i64 g] 44]
    refine J.seq <| J.region <| O.p (Pu.lss rfl rfl) rfl <| O.nil <| J.seq <| J.condT rfl rfl <| J.skip <| J.seq <| J.block <| J.seq <| J.region <| O.m rfl rfl ?_
    refine O.p (Pu.indexK (cs := [.int .i64 0, .int .i64 b, .int .i64 0, .int .i64 10000, .int .i64 1, .int .i64 99, .int .i64 1, .int .i64 100, .int .i64 0, .int .i64 m, .int .i64 1, .int .i64 32, .int .i64 1, .int .i64 32]) [.int .i64 1, .int .i64 99] runUnderlying127 sizeOf126 isAgg126 rfl rfl (by decide) (by decide) rfl) rfl <| O.l (Lo.alloc [.int .i64 0, .int .i64 0] (by exact zeroValue126) rfl) rfl ?_
    rintro _ _ ⟨g26, rfl, rfl⟩
    refine O.a rfl rfl <| O.l0 (Lo.store 0 (vs := [.int .i64 1, .int .i64 99]) [.int .i64 1, .int .i64 99] rfl rfl rfl (by exact sizeOf126) rfl rfl rfl rfl rfl) ?_
    rintro _ _ rfl
    refine O.nil <| J.seq <| J.region <| O.m rfl rfl <| O.l (Lo.call [.pointer (some ⟨g1, 0, none⟩), .int .i64 2] (by exact call96) rfl (kn_field g1 2 (by first | omega | decide) (by first | omega | decide)) [] [0, 1] (by decide) rfl [var g26 [.int .i64 1, .int .i64 99] 126, var g1 [.int .i64 a, .int .i64 b, .int .i64 c, .int .i64 d, .int .i64 e, .int .i64 f, .int .i64 g] 44] rfl RoOk.nil) rfl ?_
    rintro _ _ ⟨_, ⟨rfl, rfl⟩, rfl⟩
    refine O.p (Pu.nilCheck rfl) rfl <| O.q (Qt.ld rfl (Cel.var 1 rfl) (o := 0) (off := 2) rfl (Cut.one isAgg3 rfl)) rfl <| O.a rfl rfl <| O.nil <| J.seq <| J.region <| O.m rfl rfl <| O.p (Pu.indexAddrK 0 runUnderlying126 sizeOf3 rfl rfl (by decide) (by decide) rfl) rfl <| O.q (Qt.ld rfl (Cel.var 0 rfl) (o := 0) (off := 0) rfl (Cut.one isAgg3 rfl)) rfl <| O.p (Pu.lss rfl rfl) rfl <| O.m rfl rfl ?_
    refine by_bool (decide (c < 1)) (fun h28 => ?_) (fun h28 => ?_)
    ·
     have p29 := of_decide_eq_true h28
     refine O.gskip (t := 39) rfl rfl (no_bool (by rw [h28]; decide)) rfl rfl <| O.gskip (t := 39) rfl rfl (no_bool (by rw [h28]; decide)) rfl rfl <| O.gskip (t := 39) rfl rfl (no_bool (by rw [h28]; decide)) rfl rfl <| O.gskip (t := 39) rfl rfl (no_bool (by rw [h28]; decide)) rfl rfl <| O.p (Pu.pickT rfl h28 rfl) rfl <| O.nil <| J.condT rfl rfl <| J.seq <| J.region <| O.a rfl rfl <| O.nil ?_
     exact J.ret (Fin.ret (rs := [.tmp 4]) rfl [_] ⟨rfl, trivial⟩ [] (by decide) [] rfl ⟨(by rw [Kn.check_no (by omega)]; rfl), rfl⟩)
    ·
     have p30 := of_decide_eq_false h28
     refine O.gq (t := 39) rfl rfl h28 rfl (Pu.qt (Pu.move rfl)) rfl <| O.gq (t := 39) rfl rfl h28 rfl (Pu.qt (Pu.indexAddrK 1 runUnderlying126 sizeOf3 rfl rfl (by decide) (by decide) rfl)) rfl <| O.gq (t := 39) rfl rfl h28 rfl (Qt.ld rfl (Cel.var 0 rfl) (o := 0) (off := 1) rfl (Cut.one isAgg3 rfl)) rfl <| O.gq (t := 39) rfl rfl h28 rfl (Pu.qt (Pu.gtr rfl rfl)) rfl <| O.p (Pu.pickF rfl h28 rfl) rfl <| O.nil ?_
     refine J.cond rfl (fun h31 => ?_) (fun h31 => ?_)
     ·
      have p32 := of_decide_eq_true h31
      refine J.seq <| J.region <| O.a rfl rfl <| O.nil ?_
      exact J.ret (Fin.ret (rs := [.tmp 4]) rfl [_] ⟨rfl, trivial⟩ [] (by decide) [] rfl ⟨(by rw [Kn.check_no (by omega)]; rfl), rfl⟩)
     ·
      have p33 := of_decide_eq_false h31
      refine J.skip <| J.blk <| J.region <| O.p (Pu.add' rfl rfl (by first | omega | (simp only [List.length_append, List.length_cons, List.length_nil, List.length_set]; omega))) rfl <| O.m rfl rfl <| O.nil ?_
      exact J.lp 3 (show 3 ≤ 7 ∧ 1 ≤ m ∧ m ≤ 128 ∧ (1 ≤ 3 → 0 ≤ a ∧ a ≤ b) ∧ (2 ≤ 3 → 0 ≤ b ∧ b ≤ 10000) ∧ (3 ≤ 3 → 1 ≤ c ∧ c ≤ 99) ∧ (4 ≤ 3 → 1 ≤ d ∧ d ≤ 100) ∧ (5 ≤ 3 → 0 ≤ e ∧ e ≤ m) ∧ (6 ≤ 3 → 1 ≤ f ∧ f ≤ 32) ∧ (7 ≤ 3 → 1 ≤ g ∧ g ≤ 32) from ⟨by omega, by omega, by omega, by omega, by omega, by omega, by omega, by omega, by omega, by omega⟩) (show 7 - 3 < 7 - 2 from (by first | omega | decide)) ⟨rfl, rfl, (congrArg (fun z => some (Value.int .i64 z)) (by first | rfl | omega : (2 + 1 : Int) = (3 : Int))), trivial⟩ [1] (by decide) rfl
   ·
    show J _ _ [(2, .pointer (some ⟨g1, 0, none⟩)), (26, .agg #[.int .i64 0, .int .i64 b, .int .i64 0, .int .i64 10000, .int .i64 1, .int .i64 99, .int .i64 1, .int .i64 100, .int .i64 0, .int .i64 m, .int .i64 1, .int .i64 32, .int .i64 1, .int .i64 32]), (27, .int .i64 3)] [var g1 [.int .i64 a, .int .i64 b, .int .i64 c, .int .i64 d, .int .i64 e, .int .i64 f, .int .i64 g] 44]
    refine J.seq <| J.region <| O.p (Pu.lss rfl rfl) rfl <| O.nil <| J.seq <| J.condT rfl rfl <| J.skip <| J.seq <| J.block <| J.seq <| J.region <| O.m rfl rfl ?_
    refine O.p (Pu.indexK (cs := [.int .i64 0, .int .i64 b, .int .i64 0, .int .i64 10000, .int .i64 1, .int .i64 99, .int .i64 1, .int .i64 100, .int .i64 0, .int .i64 m, .int .i64 1, .int .i64 32, .int .i64 1, .int .i64 32]) [.int .i64 1, .int .i64 100] runUnderlying127 sizeOf126 isAgg126 rfl rfl (by decide) (by decide) rfl) rfl <| O.l (Lo.alloc [.int .i64 0, .int .i64 0] (by exact zeroValue126) rfl) rfl ?_
    rintro _ _ ⟨g34, rfl, rfl⟩
    refine O.a rfl rfl <| O.l0 (Lo.store 0 (vs := [.int .i64 1, .int .i64 100]) [.int .i64 1, .int .i64 100] rfl rfl rfl (by exact sizeOf126) rfl rfl rfl rfl rfl) ?_
    rintro _ _ rfl
    refine O.nil <| J.seq <| J.region <| O.m rfl rfl <| O.l (Lo.call [.pointer (some ⟨g1, 0, none⟩), .int .i64 3] (by exact call96) rfl (kn_field g1 3 (by first | omega | decide) (by first | omega | decide)) [] [0, 1] (by decide) rfl [var g34 [.int .i64 1, .int .i64 100] 126, var g1 [.int .i64 a, .int .i64 b, .int .i64 c, .int .i64 d, .int .i64 e, .int .i64 f, .int .i64 g] 44] rfl RoOk.nil) rfl ?_
    rintro _ _ ⟨_, ⟨rfl, rfl⟩, rfl⟩
    refine O.p (Pu.nilCheck rfl) rfl <| O.q (Qt.ld rfl (Cel.var 1 rfl) (o := 0) (off := 3) rfl (Cut.one isAgg3 rfl)) rfl <| O.a rfl rfl <| O.nil <| J.seq <| J.region <| O.m rfl rfl <| O.p (Pu.indexAddrK 0 runUnderlying126 sizeOf3 rfl rfl (by decide) (by decide) rfl) rfl <| O.q (Qt.ld rfl (Cel.var 0 rfl) (o := 0) (off := 0) rfl (Cut.one isAgg3 rfl)) rfl <| O.p (Pu.lss rfl rfl) rfl <| O.m rfl rfl ?_
    refine by_bool (decide (d < 1)) (fun h36 => ?_) (fun h36 => ?_)
    ·
     have p37 := of_decide_eq_true h36
     refine O.gskip (t := 39) rfl rfl (no_bool (by rw [h36]; decide)) rfl rfl <| O.gskip (t := 39) rfl rfl (no_bool (by rw [h36]; decide)) rfl rfl <| O.gskip (t := 39) rfl rfl (no_bool (by rw [h36]; decide)) rfl rfl <| O.gskip (t := 39) rfl rfl (no_bool (by rw [h36]; decide)) rfl rfl <| O.p (Pu.pickT rfl h36 rfl) rfl <| O.nil <| J.condT rfl rfl <| J.seq <| J.region <| O.a rfl rfl <| O.nil ?_
     exact J.ret (Fin.ret (rs := [.tmp 4]) rfl [_] ⟨rfl, trivial⟩ [] (by decide) [] rfl ⟨(by rw [Kn.check_no (by omega)]; rfl), rfl⟩)
    ·
     have p38 := of_decide_eq_false h36
     refine O.gq (t := 39) rfl rfl h36 rfl (Pu.qt (Pu.move rfl)) rfl <| O.gq (t := 39) rfl rfl h36 rfl (Pu.qt (Pu.indexAddrK 1 runUnderlying126 sizeOf3 rfl rfl (by decide) (by decide) rfl)) rfl <| O.gq (t := 39) rfl rfl h36 rfl (Qt.ld rfl (Cel.var 0 rfl) (o := 0) (off := 1) rfl (Cut.one isAgg3 rfl)) rfl <| O.gq (t := 39) rfl rfl h36 rfl (Pu.qt (Pu.gtr rfl rfl)) rfl <| O.p (Pu.pickF rfl h36 rfl) rfl <| O.nil ?_
     refine J.cond rfl (fun h39 => ?_) (fun h39 => ?_)
     ·
      have p40 := of_decide_eq_true h39
      refine J.seq <| J.region <| O.a rfl rfl <| O.nil ?_
      exact J.ret (Fin.ret (rs := [.tmp 4]) rfl [_] ⟨rfl, trivial⟩ [] (by decide) [] rfl ⟨(by rw [Kn.check_no (by omega)]; rfl), rfl⟩)
     ·
      have p41 := of_decide_eq_false h39
      refine J.skip <| J.blk <| J.region <| O.p (Pu.add' rfl rfl (by first | omega | (simp only [List.length_append, List.length_cons, List.length_nil, List.length_set]; omega))) rfl <| O.m rfl rfl <| O.nil ?_
      exact J.lp 4 (show 4 ≤ 7 ∧ 1 ≤ m ∧ m ≤ 128 ∧ (1 ≤ 4 → 0 ≤ a ∧ a ≤ b) ∧ (2 ≤ 4 → 0 ≤ b ∧ b ≤ 10000) ∧ (3 ≤ 4 → 1 ≤ c ∧ c ≤ 99) ∧ (4 ≤ 4 → 1 ≤ d ∧ d ≤ 100) ∧ (5 ≤ 4 → 0 ≤ e ∧ e ≤ m) ∧ (6 ≤ 4 → 1 ≤ f ∧ f ≤ 32) ∧ (7 ≤ 4 → 1 ≤ g ∧ g ≤ 32) from ⟨by omega, by omega, by omega, by omega, by omega, by omega, by omega, by omega, by omega, by omega⟩) (show 7 - 4 < 7 - 3 from (by first | omega | decide)) ⟨rfl, rfl, (congrArg (fun z => some (Value.int .i64 z)) (by first | rfl | omega : (3 + 1 : Int) = (4 : Int))), trivial⟩ [1] (by decide) rfl
   ·
    show J _ _ [(2, .pointer (some ⟨g1, 0, none⟩)), (26, .agg #[.int .i64 0, .int .i64 b, .int .i64 0, .int .i64 10000, .int .i64 1, .int .i64 99, .int .i64 1, .int .i64 100, .int .i64 0, .int .i64 m, .int .i64 1, .int .i64 32, .int .i64 1, .int .i64 32]), (27, .int .i64 4)] [var g1 [.int .i64 a, .int .i64 b, .int .i64 c, .int .i64 d, .int .i64 e, .int .i64 f, .int .i64 g] 44]
    refine J.seq <| J.region <| O.p (Pu.lss rfl rfl) rfl <| O.nil <| J.seq <| J.condT rfl rfl <| J.skip <| J.seq <| J.block <| J.seq <| J.region <| O.m rfl rfl ?_
    refine O.p (Pu.indexK (cs := [.int .i64 0, .int .i64 b, .int .i64 0, .int .i64 10000, .int .i64 1, .int .i64 99, .int .i64 1, .int .i64 100, .int .i64 0, .int .i64 m, .int .i64 1, .int .i64 32, .int .i64 1, .int .i64 32]) [.int .i64 0, .int .i64 m] runUnderlying127 sizeOf126 isAgg126 rfl rfl (by decide) (by decide) rfl) rfl <| O.l (Lo.alloc [.int .i64 0, .int .i64 0] (by exact zeroValue126) rfl) rfl ?_
    rintro _ _ ⟨g42, rfl, rfl⟩
    refine O.a rfl rfl <| O.l0 (Lo.store 0 (vs := [.int .i64 0, .int .i64 m]) [.int .i64 0, .int .i64 m] rfl rfl rfl (by exact sizeOf126) rfl rfl rfl rfl rfl) ?_
    rintro _ _ rfl
    refine O.nil <| J.seq <| J.region <| O.m rfl rfl <| O.l (Lo.call [.pointer (some ⟨g1, 0, none⟩), .int .i64 4] (by exact call96) rfl (kn_field g1 4 (by first | omega | decide) (by first | omega | decide)) [] [0, 1] (by decide) rfl [var g42 [.int .i64 0, .int .i64 m] 126, var g1 [.int .i64 a, .int .i64 b, .int .i64 c, .int .i64 d, .int .i64 e, .int .i64 f, .int .i64 g] 44] rfl RoOk.nil) rfl ?_
    rintro _ _ ⟨_, ⟨rfl, rfl⟩, rfl⟩
    refine O.p (Pu.nilCheck rfl) rfl <| O.q (Qt.ld rfl (Cel.var 1 rfl) (o := 0) (off := 4) rfl (Cut.one isAgg3 rfl)) rfl <| O.a rfl rfl <| O.nil <| J.seq <| J.region <| O.m rfl rfl <| O.p (Pu.indexAddrK 0 runUnderlying126 sizeOf3 rfl rfl (by decide) (by decide) rfl) rfl <| O.q (Qt.ld rfl (Cel.var 0 rfl) (o := 0) (off := 0) rfl (Cut.one isAgg3 rfl)) rfl <| O.p (Pu.lss rfl rfl) rfl <| O.m rfl rfl ?_
    refine by_bool (decide (e < 0)) (fun h44 => ?_) (fun h44 => ?_)
    ·
     have p45 := of_decide_eq_true h44
     refine O.gskip (t := 39) rfl rfl (no_bool (by rw [h44]; decide)) rfl rfl <| O.gskip (t := 39) rfl rfl (no_bool (by rw [h44]; decide)) rfl rfl <| O.gskip (t := 39) rfl rfl (no_bool (by rw [h44]; decide)) rfl rfl <| O.gskip (t := 39) rfl rfl (no_bool (by rw [h44]; decide)) rfl rfl <| O.p (Pu.pickT rfl h44 rfl) rfl <| O.nil <| J.condT rfl rfl <| J.seq <| J.region <| O.a rfl rfl <| O.nil ?_
     exact J.ret (Fin.ret (rs := [.tmp 4]) rfl [_] ⟨rfl, trivial⟩ [] (by decide) [] rfl ⟨(by rw [Kn.check_no (by omega)]; rfl), rfl⟩)
    ·
     have p46 := of_decide_eq_false h44
     refine O.gq (t := 39) rfl rfl h44 rfl (Pu.qt (Pu.move rfl)) rfl <| O.gq (t := 39) rfl rfl h44 rfl (Pu.qt (Pu.indexAddrK 1 runUnderlying126 sizeOf3 rfl rfl (by decide) (by decide) rfl)) rfl <| O.gq (t := 39) rfl rfl h44 rfl (Qt.ld rfl (Cel.var 0 rfl) (o := 0) (off := 1) rfl (Cut.one isAgg3 rfl)) rfl <| O.gq (t := 39) rfl rfl h44 rfl (Pu.qt (Pu.gtr rfl rfl)) rfl <| O.p (Pu.pickF rfl h44 rfl) rfl <| O.nil ?_
     refine J.cond rfl (fun h47 => ?_) (fun h47 => ?_)
     ·
      have p48 := of_decide_eq_true h47
      refine J.seq <| J.region <| O.a rfl rfl <| O.nil ?_
      exact J.ret (Fin.ret (rs := [.tmp 4]) rfl [_] ⟨rfl, trivial⟩ [] (by decide) [] rfl ⟨(by rw [Kn.check_no (by omega)]; rfl), rfl⟩)
     ·
      have p49 := of_decide_eq_false h47
      refine J.skip <| J.blk <| J.region <| O.p (Pu.add' rfl rfl (by first | omega | (simp only [List.length_append, List.length_cons, List.length_nil, List.length_set]; omega))) rfl <| O.m rfl rfl <| O.nil ?_
      exact J.lp 5 (show 5 ≤ 7 ∧ 1 ≤ m ∧ m ≤ 128 ∧ (1 ≤ 5 → 0 ≤ a ∧ a ≤ b) ∧ (2 ≤ 5 → 0 ≤ b ∧ b ≤ 10000) ∧ (3 ≤ 5 → 1 ≤ c ∧ c ≤ 99) ∧ (4 ≤ 5 → 1 ≤ d ∧ d ≤ 100) ∧ (5 ≤ 5 → 0 ≤ e ∧ e ≤ m) ∧ (6 ≤ 5 → 1 ≤ f ∧ f ≤ 32) ∧ (7 ≤ 5 → 1 ≤ g ∧ g ≤ 32) from ⟨by omega, by omega, by omega, by omega, by omega, by omega, by omega, by omega, by omega, by omega⟩) (show 7 - 5 < 7 - 4 from (by first | omega | decide)) ⟨rfl, rfl, (congrArg (fun z => some (Value.int .i64 z)) (by first | rfl | omega : (4 + 1 : Int) = (5 : Int))), trivial⟩ [1] (by decide) rfl
   ·
    show J _ _ [(2, .pointer (some ⟨g1, 0, none⟩)), (26, .agg #[.int .i64 0, .int .i64 b, .int .i64 0, .int .i64 10000, .int .i64 1, .int .i64 99, .int .i64 1, .int .i64 100, .int .i64 0, .int .i64 m, .int .i64 1, .int .i64 32, .int .i64 1, .int .i64 32]), (27, .int .i64 5)] [var g1 [.int .i64 a, .int .i64 b, .int .i64 c, .int .i64 d, .int .i64 e, .int .i64 f, .int .i64 g] 44]
    refine J.seq <| J.region <| O.p (Pu.lss rfl rfl) rfl <| O.nil <| J.seq <| J.condT rfl rfl <| J.skip <| J.seq <| J.block <| J.seq <| J.region <| O.m rfl rfl ?_
    refine O.p (Pu.indexK (cs := [.int .i64 0, .int .i64 b, .int .i64 0, .int .i64 10000, .int .i64 1, .int .i64 99, .int .i64 1, .int .i64 100, .int .i64 0, .int .i64 m, .int .i64 1, .int .i64 32, .int .i64 1, .int .i64 32]) [.int .i64 1, .int .i64 32] runUnderlying127 sizeOf126 isAgg126 rfl rfl (by decide) (by decide) rfl) rfl <| O.l (Lo.alloc [.int .i64 0, .int .i64 0] (by exact zeroValue126) rfl) rfl ?_
    rintro _ _ ⟨g50, rfl, rfl⟩
    refine O.a rfl rfl <| O.l0 (Lo.store 0 (vs := [.int .i64 1, .int .i64 32]) [.int .i64 1, .int .i64 32] rfl rfl rfl (by exact sizeOf126) rfl rfl rfl rfl rfl) ?_
    rintro _ _ rfl
    refine O.nil <| J.seq <| J.region <| O.m rfl rfl <| O.l (Lo.call [.pointer (some ⟨g1, 0, none⟩), .int .i64 5] (by exact call96) rfl (kn_field g1 5 (by first | omega | decide) (by first | omega | decide)) [] [0, 1] (by decide) rfl [var g50 [.int .i64 1, .int .i64 32] 126, var g1 [.int .i64 a, .int .i64 b, .int .i64 c, .int .i64 d, .int .i64 e, .int .i64 f, .int .i64 g] 44] rfl RoOk.nil) rfl ?_
    rintro _ _ ⟨_, ⟨rfl, rfl⟩, rfl⟩
    refine O.p (Pu.nilCheck rfl) rfl <| O.q (Qt.ld rfl (Cel.var 1 rfl) (o := 0) (off := 5) rfl (Cut.one isAgg3 rfl)) rfl <| O.a rfl rfl <| O.nil <| J.seq <| J.region <| O.m rfl rfl <| O.p (Pu.indexAddrK 0 runUnderlying126 sizeOf3 rfl rfl (by decide) (by decide) rfl) rfl <| O.q (Qt.ld rfl (Cel.var 0 rfl) (o := 0) (off := 0) rfl (Cut.one isAgg3 rfl)) rfl <| O.p (Pu.lss rfl rfl) rfl <| O.m rfl rfl ?_
    refine by_bool (decide (f < 1)) (fun h52 => ?_) (fun h52 => ?_)
    ·
     have p53 := of_decide_eq_true h52
     refine O.gskip (t := 39) rfl rfl (no_bool (by rw [h52]; decide)) rfl rfl <| O.gskip (t := 39) rfl rfl (no_bool (by rw [h52]; decide)) rfl rfl <| O.gskip (t := 39) rfl rfl (no_bool (by rw [h52]; decide)) rfl rfl <| O.gskip (t := 39) rfl rfl (no_bool (by rw [h52]; decide)) rfl rfl <| O.p (Pu.pickT rfl h52 rfl) rfl <| O.nil <| J.condT rfl rfl <| J.seq <| J.region <| O.a rfl rfl <| O.nil ?_
     exact J.ret (Fin.ret (rs := [.tmp 4]) rfl [_] ⟨rfl, trivial⟩ [] (by decide) [] rfl ⟨(by rw [Kn.check_no (by omega)]; rfl), rfl⟩)
    ·
     have p54 := of_decide_eq_false h52
     refine O.gq (t := 39) rfl rfl h52 rfl (Pu.qt (Pu.move rfl)) rfl <| O.gq (t := 39) rfl rfl h52 rfl (Pu.qt (Pu.indexAddrK 1 runUnderlying126 sizeOf3 rfl rfl (by decide) (by decide) rfl)) rfl <| O.gq (t := 39) rfl rfl h52 rfl (Qt.ld rfl (Cel.var 0 rfl) (o := 0) (off := 1) rfl (Cut.one isAgg3 rfl)) rfl <| O.gq (t := 39) rfl rfl h52 rfl (Pu.qt (Pu.gtr rfl rfl)) rfl <| O.p (Pu.pickF rfl h52 rfl) rfl <| O.nil ?_
     refine J.cond rfl (fun h55 => ?_) (fun h55 => ?_)
     ·
      have p56 := of_decide_eq_true h55
      refine J.seq <| J.region <| O.a rfl rfl <| O.nil ?_
      exact J.ret (Fin.ret (rs := [.tmp 4]) rfl [_] ⟨rfl, trivial⟩ [] (by decide) [] rfl ⟨(by rw [Kn.check_no (by omega)]; rfl), rfl⟩)
     ·
      have p57 := of_decide_eq_false h55
      refine J.skip <| J.blk <| J.region <| O.p (Pu.add' rfl rfl (by first | omega | (simp only [List.length_append, List.length_cons, List.length_nil, List.length_set]; omega))) rfl <| O.m rfl rfl <| O.nil ?_
      exact J.lp 6 (show 6 ≤ 7 ∧ 1 ≤ m ∧ m ≤ 128 ∧ (1 ≤ 6 → 0 ≤ a ∧ a ≤ b) ∧ (2 ≤ 6 → 0 ≤ b ∧ b ≤ 10000) ∧ (3 ≤ 6 → 1 ≤ c ∧ c ≤ 99) ∧ (4 ≤ 6 → 1 ≤ d ∧ d ≤ 100) ∧ (5 ≤ 6 → 0 ≤ e ∧ e ≤ m) ∧ (6 ≤ 6 → 1 ≤ f ∧ f ≤ 32) ∧ (7 ≤ 6 → 1 ≤ g ∧ g ≤ 32) from ⟨by omega, by omega, by omega, by omega, by omega, by omega, by omega, by omega, by omega, by omega⟩) (show 7 - 6 < 7 - 5 from (by first | omega | decide)) ⟨rfl, rfl, (congrArg (fun z => some (Value.int .i64 z)) (by first | rfl | omega : (5 + 1 : Int) = (6 : Int))), trivial⟩ [1] (by decide) rfl
   ·
    show J _ _ [(2, .pointer (some ⟨g1, 0, none⟩)), (26, .agg #[.int .i64 0, .int .i64 b, .int .i64 0, .int .i64 10000, .int .i64 1, .int .i64 99, .int .i64 1, .int .i64 100, .int .i64 0, .int .i64 m, .int .i64 1, .int .i64 32, .int .i64 1, .int .i64 32]), (27, .int .i64 6)] [var g1 [.int .i64 a, .int .i64 b, .int .i64 c, .int .i64 d, .int .i64 e, .int .i64 f, .int .i64 g] 44]
    refine J.seq <| J.region <| O.p (Pu.lss rfl rfl) rfl <| O.nil <| J.seq <| J.condT rfl rfl <| J.skip <| J.seq <| J.block <| J.seq <| J.region <| O.m rfl rfl ?_
    refine O.p (Pu.indexK (cs := [.int .i64 0, .int .i64 b, .int .i64 0, .int .i64 10000, .int .i64 1, .int .i64 99, .int .i64 1, .int .i64 100, .int .i64 0, .int .i64 m, .int .i64 1, .int .i64 32, .int .i64 1, .int .i64 32]) [.int .i64 1, .int .i64 32] runUnderlying127 sizeOf126 isAgg126 rfl rfl (by decide) (by decide) rfl) rfl <| O.l (Lo.alloc [.int .i64 0, .int .i64 0] (by exact zeroValue126) rfl) rfl ?_
    rintro _ _ ⟨g58, rfl, rfl⟩
    refine O.a rfl rfl <| O.l0 (Lo.store 0 (vs := [.int .i64 1, .int .i64 32]) [.int .i64 1, .int .i64 32] rfl rfl rfl (by exact sizeOf126) rfl rfl rfl rfl rfl) ?_
    rintro _ _ rfl
    refine O.nil <| J.seq <| J.region <| O.m rfl rfl <| O.l (Lo.call [.pointer (some ⟨g1, 0, none⟩), .int .i64 6] (by exact call96) rfl (kn_field g1 6 (by first | omega | decide) (by first | omega | decide)) [] [0, 1] (by decide) rfl [var g58 [.int .i64 1, .int .i64 32] 126, var g1 [.int .i64 a, .int .i64 b, .int .i64 c, .int .i64 d, .int .i64 e, .int .i64 f, .int .i64 g] 44] rfl RoOk.nil) rfl ?_
    rintro _ _ ⟨_, ⟨rfl, rfl⟩, rfl⟩
    refine O.p (Pu.nilCheck rfl) rfl <| O.q (Qt.ld rfl (Cel.var 1 rfl) (o := 0) (off := 6) rfl (Cut.one isAgg3 rfl)) rfl <| O.a rfl rfl <| O.nil <| J.seq <| J.region <| O.m rfl rfl <| O.p (Pu.indexAddrK 0 runUnderlying126 sizeOf3 rfl rfl (by decide) (by decide) rfl) rfl <| O.q (Qt.ld rfl (Cel.var 0 rfl) (o := 0) (off := 0) rfl (Cut.one isAgg3 rfl)) rfl <| O.p (Pu.lss rfl rfl) rfl <| O.m rfl rfl ?_
    refine by_bool (decide (g < 1)) (fun h60 => ?_) (fun h60 => ?_)
    ·
     have p61 := of_decide_eq_true h60
     refine O.gskip (t := 39) rfl rfl (no_bool (by rw [h60]; decide)) rfl rfl <| O.gskip (t := 39) rfl rfl (no_bool (by rw [h60]; decide)) rfl rfl <| O.gskip (t := 39) rfl rfl (no_bool (by rw [h60]; decide)) rfl rfl <| O.gskip (t := 39) rfl rfl (no_bool (by rw [h60]; decide)) rfl rfl <| O.p (Pu.pickT rfl h60 rfl) rfl <| O.nil <| J.condT rfl rfl <| J.seq <| J.region <| O.a rfl rfl <| O.nil ?_
     exact J.ret (Fin.ret (rs := [.tmp 4]) rfl [_] ⟨rfl, trivial⟩ [] (by decide) [] rfl ⟨(by rw [Kn.check_no (by omega)]; rfl), rfl⟩)
    ·
     have p62 := of_decide_eq_false h60
     refine O.gq (t := 39) rfl rfl h60 rfl (Pu.qt (Pu.move rfl)) rfl <| O.gq (t := 39) rfl rfl h60 rfl (Pu.qt (Pu.indexAddrK 1 runUnderlying126 sizeOf3 rfl rfl (by decide) (by decide) rfl)) rfl <| O.gq (t := 39) rfl rfl h60 rfl (Qt.ld rfl (Cel.var 0 rfl) (o := 0) (off := 1) rfl (Cut.one isAgg3 rfl)) rfl <| O.gq (t := 39) rfl rfl h60 rfl (Pu.qt (Pu.gtr rfl rfl)) rfl <| O.p (Pu.pickF rfl h60 rfl) rfl <| O.nil ?_
     refine J.cond rfl (fun h63 => ?_) (fun h63 => ?_)
     ·
      have p64 := of_decide_eq_true h63
      refine J.seq <| J.region <| O.a rfl rfl <| O.nil ?_
      exact J.ret (Fin.ret (rs := [.tmp 4]) rfl [_] ⟨rfl, trivial⟩ [] (by decide) [] rfl ⟨(by rw [Kn.check_no (by omega)]; rfl), rfl⟩)
     ·
      have p65 := of_decide_eq_false h63
      refine J.skip <| J.blk <| J.region <| O.p (Pu.add' rfl rfl (by first | omega | (simp only [List.length_append, List.length_cons, List.length_nil, List.length_set]; omega))) rfl <| O.m rfl rfl <| O.nil ?_
      exact J.lp 7 (show 7 ≤ 7 ∧ 1 ≤ m ∧ m ≤ 128 ∧ (1 ≤ 7 → 0 ≤ a ∧ a ≤ b) ∧ (2 ≤ 7 → 0 ≤ b ∧ b ≤ 10000) ∧ (3 ≤ 7 → 1 ≤ c ∧ c ≤ 99) ∧ (4 ≤ 7 → 1 ≤ d ∧ d ≤ 100) ∧ (5 ≤ 7 → 0 ≤ e ∧ e ≤ m) ∧ (6 ≤ 7 → 1 ≤ f ∧ f ≤ 32) ∧ (7 ≤ 7 → 1 ≤ g ∧ g ≤ 32) from ⟨by omega, by omega, by omega, by omega, by omega, by omega, by omega, by omega, by omega, by omega⟩) (show 7 - 7 < 7 - 6 from (by first | omega | decide)) ⟨rfl, rfl, (congrArg (fun z => some (Value.int .i64 z)) (by first | rfl | omega : (6 + 1 : Int) = (7 : Int))), trivial⟩ [1] (by decide) rfl
   ·
    show J _ _ [(2, .pointer (some ⟨g1, 0, none⟩)), (26, .agg #[.int .i64 0, .int .i64 b, .int .i64 0, .int .i64 10000, .int .i64 1, .int .i64 99, .int .i64 1, .int .i64 100, .int .i64 0, .int .i64 m, .int .i64 1, .int .i64 32, .int .i64 1, .int .i64 32]), (27, .int .i64 7)] [var g1 [.int .i64 a, .int .i64 b, .int .i64 c, .int .i64 d, .int .i64 e, .int .i64 f, .int .i64 g] 44]
    refine J.seq <| J.region <| O.p (Pu.lss rfl rfl) rfl <| O.nil <| J.seq <| J.condF rfl rfl <| J.exit _ rfl <| J.seq <| J.region <| O.a rfl rfl <| O.nil ?_
    exact J.ret (Fin.ret (rs := [.tmp 4]) rfl [_] ⟨rfl, trivial⟩ [] (by decide) [] rfl ⟨(by rw [Kn.check_yes (by omega)]; rfl), rfl⟩)

set_option maxRecDepth 100000 in
theorem kn_Usual (m : Int) : Tri prog 21 #[.int .i64 m] [] [] (fun v L' => v = .agg #[.int .i64 1, .int .i64 4, .int .i64 10, .int .i64 5, .int .i64 1, .int .i64 3, .int .i64 2] ∧ L' = []) := by
 refine Tri.enter (args := [.int .i64 m]) (body := _) 4 func21 rfl ntmps21 rfl ?_
 intro w0
 refine J.seq <| J.region <| O.l (Lo.alloc [.int .i64 0, .int .i64 0, .int .i64 0, .int .i64 0, .int .i64 0, .int .i64 0, .int .i64 0] (by exact zeroValue44) rfl) rfl ?_
 rintro _ _ ⟨g1, rfl, rfl⟩
 refine O.nil <| J.seq <| J.region <| O.p (Pu.build [(0, .int .i64 1), (1, .int .i64 4), (2, .int .i64 10), (3, .int .i64 5), (4, .int .i64 1), (5, .int .i64 3), (6, .int .i64 2)] [.int .i64 1, .int .i64 4, .int .i64 10, .int .i64 5, .int .i64 1, .int .i64 3, .int .i64 2] #[(0, 1), (1, 1), (2, 1), (3, 1), (4, 1), (5, 1), (6, 1)] runUnderlying44 zeroValue44 (places44 underlying44) rfl (by kernel_rfl)) rfl <| O.l0 (Lo.store 0 (vs := [.int .i64 1, .int .i64 4, .int .i64 10, .int .i64 5, .int .i64 1, .int .i64 3, .int .i64 2]) [.int .i64 1, .int .i64 4, .int .i64 10, .int .i64 5, .int .i64 1, .int .i64 3, .int .i64 2] rfl rfl rfl (by exact sizeOf44) rfl rfl rfl rfl rfl) ?_
 rintro _ _ rfl
 refine O.nil ?_
 exact J.ret (Fin.ret (rs := [.cell 2 44]) rfl [_] ⟨⟨_, _, 0, 0, _, rfl, (Cel.var 0 rfl), rfl, (Cut.agg [.int .i64 1, .int .i64 4, .int .i64 10, .int .i64 5, .int .i64 1, .int .i64 3, .int .i64 2] isAgg44 sizeOf44 rfl rfl)⟩, trivial⟩ [] (by decide) [] rfl ⟨rfl, rfl⟩)

end Go.Proofs.YtnhfgnnpbipcnaaGreatDoor
