/-
  Walks, printed by a program of mine (lk.py): each function meets its contract.
-/
import Derived.KernelRfl
import Derived.Test.YtnkhmbbnabejhaaGreatDoorNumsR
import Derived.Test.YtnkhmbbnabejhaaGreatDoorReport0
import Derived.Test.YtnkhmbbnabejhaaGreatDoorLkD
namespace Go.Proofs.YtnkhmbbnabejhaaGreatDoor
open Go Go.LK Go.Proofs.Tryz
set_option linter.unusedSimpArgs false

set_option maxRecDepth 100000 in
theorem bd_Keep (n most : Int) : Tri prog 30 #[.int .i64 n, .int .i64 most] [] [] (fun v L' => v = .int .i64 (Rp.keep n most) ∧ L' = []) := by
 refine Tri.enter (args := [.int .i64 n, .int .i64 most]) (body := _) 9 func30 rfl ntmps30 rfl ?_
 intro w0
 refine J.seq <| J.region <| O.a rfl rfl <| O.nil <| J.seq <| J.region <| O.m rfl rfl <| O.m rfl rfl <| O.p (Pu.min rfl rfl) rfl <| O.p (Pu.max rfl rfl) rfl <| O.a rfl rfl <| O.nil ?_
 exact J.ret (Fin.ret (rs := [.tmp 4]) rfl [_] ⟨rfl, trivial⟩ [] (by decide) [] rfl ⟨rfl, rfl⟩)

set_option maxRecDepth 100000 in
theorem bd_plus (a b : Int) (h1 : 0 ≤ a ∧ a ≤ 2147483647) (h2 : 0 ≤ b ∧ b ≤ 2147483647) : Tri prog 58 #[.int .i64 a, .int .i64 b] [] [] (fun v L' => v = .int .i64 (a + b) ∧ L' = []) := by
 refine Tri.enter (args := [.int .i64 a, .int .i64 b]) (body := _) 8 func58 rfl ntmps58 rfl ?_
 intro w0
 refine J.seq <| J.region <| O.a rfl rfl <| O.nil <| J.seq <| J.region <| O.m rfl rfl <| O.m rfl rfl <| O.p (Pu.add' rfl rfl (by omega)) rfl <| O.a rfl rfl <| O.nil ?_
 exact J.ret (Fin.ret (rs := [.tmp 4]) rfl [_] ⟨rfl, trivial⟩ [] (by decide) [] rfl ⟨rfl, rfl⟩)

set_option maxRecDepth 100000 in
theorem bd_times (a b : Int) : Tri prog 77 #[.int .i64 a, .int .i64 b] [] [] (fun v L' => v = .int .i64 (IntKind.i64.wrap (a * b)) ∧ L' = []) := by
 refine Tri.enter (args := [.int .i64 a, .int .i64 b]) (body := _) 8 func77 rfl ntmps77 rfl ?_
 intro w0
 refine J.seq <| J.region <| O.a rfl rfl <| O.nil <| J.seq <| J.region <| O.m rfl rfl <| O.m rfl rfl <| O.p (Pu.mul rfl rfl) rfl <| O.a rfl rfl <| O.nil ?_
 exact J.ret (Fin.ret (rs := [.tmp 4]) rfl [_] ⟨rfl, trivial⟩ [] (by decide) [] rfl ⟨rfl, rfl⟩)

set_option maxRecDepth 100000 in
theorem bd_countsAdd (a b : Int) : Tri prog 57 #[.int .i64 a, .int .i64 b, .func (.func 58) #[] #[]] [] [] (fun v L' => v = .int .i64 (Rp.addC a b) ∧ L' = []) := by
 refine Tri.enter (args := [.int .i64 a, .int .i64 b, .func (.func 58) #[] #[]]) (body := _) 14 func57 rfl ntmps57 rfl ?_
 intro w0
 refine J.seq <| J.region <| O.a rfl rfl <| O.nil <| J.seq <| J.region <| O.m rfl rfl <| O.m rfl rfl <| O.l (Lo.call [.int .i64 a, .int .i64 2147483647] (by exact call30) rfl (bd_Keep a 2147483647) [] [] (by decide) rfl [] rfl RoOk.nil) rfl ?_
 rintro _ _ ⟨_, ⟨rfl, rfl⟩, rfl⟩
 refine O.m rfl rfl <| O.l (Lo.call [.int .i64 b, .int .i64 2147483647] (by exact call30) rfl (bd_Keep b 2147483647) [] [] (by decide) rfl [] rfl RoOk.nil) rfl ?_
 rintro _ _ ⟨_, ⟨rfl, rfl⟩, rfl⟩
 refine O.l (Lo.callV (vs := [.int .i64 (Rp.keep a 2147483647), .int .i64 (Rp.keep b 2147483647)]) (caps := []) (by exact call58) rfl rfl (bd_plus (Rp.keep a 2147483647) (Rp.keep b 2147483647) (Rp.keep_bnd _ (by decide)) (Rp.keep_bnd _ (by decide))) [] [] (by decide) rfl [] rfl RoOk.nil) rfl ?_
 rintro _ _ ⟨_, ⟨rfl, rfl⟩, rfl⟩
 refine O.l (Lo.call [.int .i64 ((Rp.keep a 2147483647) + (Rp.keep b 2147483647)), .int .i64 2147483647] (by exact call30) rfl (bd_Keep ((Rp.keep a 2147483647) + (Rp.keep b 2147483647)) 2147483647) [] [] (by decide) rfl [] rfl RoOk.nil) rfl ?_
 rintro _ _ ⟨_, ⟨rfl, rfl⟩, rfl⟩
 refine O.a rfl rfl <| O.nil ?_
 exact J.ret (Fin.ret (rs := [.tmp 6]) rfl [_] ⟨rfl, trivial⟩ [] (by decide) [] rfl ⟨rfl, rfl⟩)

set_option maxRecDepth 100000 in
theorem bd_countsMul (a b : Int) : Tri prog 57 #[.int .i64 a, .int .i64 b, .func (.func 77) #[] #[]] [] [] (fun v L' => v = .int .i64 (Rp.mulC a b) ∧ L' = []) := by
 refine Tri.enter (args := [.int .i64 a, .int .i64 b, .func (.func 77) #[] #[]]) (body := _) 14 func57 rfl ntmps57 rfl ?_
 intro w0
 refine J.seq <| J.region <| O.a rfl rfl <| O.nil <| J.seq <| J.region <| O.m rfl rfl <| O.m rfl rfl <| O.l (Lo.call [.int .i64 a, .int .i64 2147483647] (by exact call30) rfl (bd_Keep a 2147483647) [] [] (by decide) rfl [] rfl RoOk.nil) rfl ?_
 rintro _ _ ⟨_, ⟨rfl, rfl⟩, rfl⟩
 refine O.m rfl rfl <| O.l (Lo.call [.int .i64 b, .int .i64 2147483647] (by exact call30) rfl (bd_Keep b 2147483647) [] [] (by decide) rfl [] rfl RoOk.nil) rfl ?_
 rintro _ _ ⟨_, ⟨rfl, rfl⟩, rfl⟩
 refine O.l (Lo.callV (vs := [.int .i64 (Rp.keep a 2147483647), .int .i64 (Rp.keep b 2147483647)]) (caps := []) (by exact call77) rfl rfl (bd_times (Rp.keep a 2147483647) (Rp.keep b 2147483647)) [] [] (by decide) rfl [] rfl RoOk.nil) rfl ?_
 rintro _ _ ⟨_, ⟨rfl, rfl⟩, rfl⟩
 refine O.l (Lo.call [.int .i64 (IntKind.i64.wrap ((Rp.keep a 2147483647) * (Rp.keep b 2147483647))), .int .i64 2147483647] (by exact call30) rfl (bd_Keep (IntKind.i64.wrap ((Rp.keep a 2147483647) * (Rp.keep b 2147483647))) 2147483647) [] [] (by decide) rfl [] rfl RoOk.nil) rfl ?_
 rintro _ _ ⟨_, ⟨rfl, rfl⟩, rfl⟩
 refine O.a rfl rfl <| O.nil ?_
 exact J.ret (Fin.ret (rs := [.tmp 6]) rfl [_] ⟨rfl, trivial⟩ [] (by decide) [] rfl ⟨rfl, rfl⟩)

set_option maxRecDepth 100000 in
theorem bd_Add (a b : Int) : Tri prog 29 #[.int .i64 a, .int .i64 b] [] [] (fun v L' => v = .int .i64 (Rp.addC a b) ∧ L' = []) := by
 refine Tri.enter (args := [.int .i64 a, .int .i64 b]) (body := _) 8 func29 rfl ntmps29 rfl ?_
 intro w0
 refine J.seq <| J.region <| O.a rfl rfl <| O.nil <| J.seq <| J.region <| O.m rfl rfl <| O.m rfl rfl <| O.l (Lo.call [.int .i64 a, .int .i64 b, .func (.func 58) #[] #[]] (by exact call57) rfl (bd_countsAdd a b) [] [] (by decide) rfl [] rfl RoOk.nil) rfl ?_
 rintro _ _ ⟨_, ⟨rfl, rfl⟩, rfl⟩
 refine O.a rfl rfl <| O.nil ?_
 exact J.ret (Fin.ret (rs := [.tmp 4]) rfl [_] ⟨rfl, trivial⟩ [] (by decide) [] rfl ⟨rfl, rfl⟩)

set_option maxRecDepth 100000 in
theorem bd_Mul (a b : Int) : Tri prog 59 #[.int .i64 a, .int .i64 b] [] [] (fun v L' => v = .int .i64 (Rp.mulC a b) ∧ L' = []) := by
 refine Tri.enter (args := [.int .i64 a, .int .i64 b]) (body := _) 8 func59 rfl ntmps59 rfl ?_
 intro w0
 refine J.seq <| J.region <| O.a rfl rfl <| O.nil <| J.seq <| J.region <| O.m rfl rfl <| O.m rfl rfl <| O.l (Lo.call [.int .i64 a, .int .i64 b, .func (.func 77) #[] #[]] (by exact call57) rfl (bd_countsMul a b) [] [] (by decide) rfl [] rfl RoOk.nil) rfl ?_
 rintro _ _ ⟨_, ⟨rfl, rfl⟩, rfl⟩
 refine O.a rfl rfl <| O.nil ?_
 exact J.ret (Fin.ret (rs := [.tmp 4]) rfl [_] ⟨rfl, trivial⟩ [] (by decide) [] rfl ⟨rfl, rfl⟩)

set_option maxRecDepth 100000 in
theorem bd_Sum (zv : Value) (zs : List Int) (hl : zs.length ≤ 100000) : Tri prog 35 #[zv] [rd zv 1 (zs.map encZ)] [] (fun v L' => v = .int .i64 (Rp.sumC zs) ∧ L' = []) := by
 refine Tri.enter (args := [zv]) (body := _) 17 func35 rfl ntmps35 rfl ?_
 intro w0
 refine J.seq <| J.region <| O.a rfl rfl <| O.nil <| J.seq <| J.region <| O.a rfl rfl <| O.nil <| J.seq <| J.seq <| J.region <| O.m rfl rfl ?_
 refine O.q (Qt.lenM runUnderlying34 rfl (Src.ro 0 rfl)) rfl <| O.m rfl rfl <| O.nil <| J.block <| J.loop (X := Nat × Int) (fun ξ => ξ.1 ≤ zs.length ∧ ξ.2 = (zs.take ξ.1).foldl Rp.addC 0) (fun ξ => [(2, .int .i64 0), (3, .int .i64 ξ.2), (6, zv), (7, .int .i64 (zs.length : Int)), (8, .int .i64 (ξ.1 : Int))]) (fun ξ => []) (fun ξ => zs.length - ξ.1) ⟨0, 0⟩ (show 0 ≤ zs.length ∧ 0 = (zs.take 0).foldl Rp.addC 0 from ⟨by omega, rfl⟩) ⟨rfl, rfl, rfl, rfl, (congrArg (fun z => some (Value.int .i64 z)) (by first | rfl | omega : (0 : Int) = (0 : Int))), trivial⟩ [] (by decide) rfl ?_
 rintro ⟨k, t⟩ hq1
 obtain ⟨hk, ht⟩ : k ≤ zs.length ∧ t = (zs.take k).foldl Rp.addC 0 := hq1
 show J _ _ [(2, .int .i64 0), (3, .int .i64 t), (6, zv), (7, .int .i64 (zs.length : Int)), (8, .int .i64 (k : Int))] []
 refine J.seq <| J.region <| O.p (Pu.lss rfl rfl) rfl <| O.nil <| J.seq ?_
 refine J.cond rfl (fun h2 => ?_) (fun h2 => ?_)
 ·
  have p3 := of_decide_eq_true h2
  refine J.skip <| J.seq <| J.block <| J.seq <| J.region ?_
  obtain ⟨e4, he4⟩ : ∃ x_, zs[k]? = some x_ := ⟨_, List.getElem?_eq_getElem (by omega)⟩
  refine O.q (Qt.idxM runUnderlying34 sizeOf3 rfl (Src.ro 0 rfl) rfl (by omega) (by omega)) rfl <| O.q (Qt.ld rfl (Cel.eltM (Src.ro 0 rfl) he4) (o := (voff zv + k * 1)) (off := 0) (by omega) (Cut.one isAgg3 rfl)) rfl <| O.a rfl rfl <| O.nil <| J.region <| O.m rfl rfl <| O.m rfl rfl <| O.l (Lo.call [.int .i64 t, .int .i64 e4] (by exact call29) rfl (bd_Add t e4) [] [] (by decide) rfl [] rfl RoOk.nil) rfl ?_
  rintro _ _ ⟨_, ⟨rfl, rfl⟩, rfl⟩
  refine O.a rfl rfl <| O.nil <| J.blk <| J.region <| O.p (Pu.add' rfl rfl (by first | omega | (simp only [List.length_append, List.length_cons, List.length_nil, List.length_set]; omega))) rfl <| O.m rfl rfl <| O.nil ?_
  exact J.lp ⟨k + 1, Rp.addC t e4⟩ (show (k + 1) ≤ zs.length ∧ (Rp.addC t e4) = (zs.take (k + 1)).foldl Rp.addC 0 from ⟨by omega, (by rw [ht, List.take_add_one, he4, List.foldl_append]; rfl)⟩) (show zs.length - (k + 1) < zs.length - k from (by omega)) ⟨rfl, rfl, rfl, rfl, (congrArg (fun z => some (Value.int .i64 z)) (by first | rfl | omega : ((k : Int) + 1 : Int) = ((k + 1) : Int))), trivial⟩ [] (by decide) rfl
 ·
  have p6 := of_decide_eq_false h2
  refine J.exit _ rfl <| J.seq <| J.region <| O.m rfl rfl <| O.a rfl rfl <| O.nil ?_
  exact J.ret (Fin.ret (rs := [.tmp 2]) rfl [_] ⟨rfl, trivial⟩ [] (by decide) [] rfl ⟨(by rw [ht, List.take_of_length_le (by omega)]; rfl), rfl⟩)

set_option maxRecDepth 100000 in
theorem r01_Keep (n most : Int) : Tri prog 60 #[.int .i64 n, .int .i64 most] [] [] (fun v L' => v = .int .i64 (Rp.keep n most) ∧ L' = []) := by
 refine Tri.enter (args := [.int .i64 n, .int .i64 most]) (body := _) 16 func60 rfl ntmps60 rfl ?_
 intro w0
 refine J.seq <| J.region <| O.a rfl rfl <| O.nil <| J.seq <| J.seq <| J.region <| O.m rfl rfl <| O.p (Pu.lss rfl rfl) rfl <| O.m rfl rfl ?_
 refine by_bool (decide (n < 0)) (fun h1 => ?_) (fun h1 => ?_)
 ·
  have p2 := of_decide_eq_true h1
  refine O.gskip (t := 7) rfl rfl (no_bool (by rw [h1]; decide)) rfl rfl <| O.gskip (t := 7) rfl rfl (no_bool (by rw [h1]; decide)) rfl rfl <| O.p (Pu.pickT rfl h1 rfl) rfl <| O.nil <| J.condT rfl rfl <| J.seq <| J.region <| O.a rfl rfl <| O.nil ?_
  exact J.ret (Fin.ret (rs := [.tmp 4]) rfl [_] ⟨rfl, trivial⟩ [] (by decide) [] rfl ⟨(by simp only [vOf]; congr 1; unfold Rp.keep; (repeat' split) <;> omega), rfl⟩)
 ·
  have p3 := of_decide_eq_false h1
  refine O.gq (t := 7) rfl rfl h1 rfl (Pu.qt (Pu.move rfl)) rfl <| O.gq (t := 7) rfl rfl h1 rfl (Pu.qt (Pu.lss rfl rfl)) rfl <| O.p (Pu.pickF rfl h1 rfl) rfl <| O.nil ?_
  refine J.cond rfl (fun h4 => ?_) (fun h4 => ?_)
  ·
   have p5 := of_decide_eq_true h4
   refine J.seq <| J.region <| O.a rfl rfl <| O.nil ?_
   exact J.ret (Fin.ret (rs := [.tmp 4]) rfl [_] ⟨rfl, trivial⟩ [] (by decide) [] rfl ⟨(by simp only [vOf]; congr 1; unfold Rp.keep; (repeat' split) <;> omega), rfl⟩)
  ·
   have p6 := of_decide_eq_false h4
   refine J.skip <| J.seq <| J.seq <| J.region <| O.m rfl rfl <| O.m rfl rfl <| O.p (Pu.gtr rfl rfl) rfl <| O.nil ?_
   refine J.cond rfl (fun h7 => ?_) (fun h7 => ?_)
   ·
    have p8 := of_decide_eq_true h7
    refine J.seq <| J.region <| O.m rfl rfl <| O.a rfl rfl <| O.nil ?_
    exact J.ret (Fin.ret (rs := [.tmp 4]) rfl [_] ⟨rfl, trivial⟩ [] (by decide) [] rfl ⟨(by simp only [vOf]; congr 1; unfold Rp.keep; (repeat' split) <;> omega), rfl⟩)
   ·
    have p9 := of_decide_eq_false h7
    refine J.skip <| J.seq <| J.region <| O.m rfl rfl <| O.a rfl rfl <| O.nil ?_
    exact J.ret (Fin.ret (rs := [.tmp 4]) rfl [_] ⟨rfl, trivial⟩ [] (by decide) [] rfl ⟨(by simp only [vOf]; congr 1; unfold Rp.keep; (repeat' split) <;> omega), rfl⟩)

set_option maxRecDepth 100000 in
theorem r01_Count (n : Int) : Tri prog 33 #[.int .i64 n] [] [] (fun v L' => v = .int .i64 (Rp.keep n 2147483647) ∧ L' = []) := by
 refine Tri.enter (args := [.int .i64 n]) (body := _) 5 func33 rfl ntmps33 rfl ?_
 intro w0
 refine J.seq <| J.region <| O.a rfl rfl <| O.nil <| J.seq <| J.region <| O.m rfl rfl <| O.l (Lo.call [.int .i64 n, .int .i64 2147483647] (by exact call60) rfl (r01_Keep n 2147483647) [] [] (by decide) rfl [] rfl RoOk.nil) rfl ?_
 rintro _ _ ⟨_, ⟨rfl, rfl⟩, rfl⟩
 refine O.a rfl rfl <| O.nil ?_
 exact J.ret (Fin.ret (rs := [.tmp 2]) rfl [_] ⟨rfl, trivial⟩ [] (by decide) [] rfl ⟨rfl, rfl⟩)

set_option maxRecDepth 100000 in
theorem r01_Mul (a b : Int) : Tri prog 61 #[.int .i64 a, .int .i64 b] [] [] (fun v L' => v = .int .i64 (Rp.mulC a b) ∧ L' = []) := by
 refine Tri.enter (args := [.int .i64 a, .int .i64 b]) (body := _) 11 func61 rfl ntmps61 rfl ?_
 intro w0
 refine J.seq <| J.region <| O.a rfl rfl <| O.nil <| J.seq <| J.region <| O.m rfl rfl <| O.l (Lo.call [.int .i64 a] (by exact call33) rfl (r01_Count a) [] [] (by decide) rfl [] rfl RoOk.nil) rfl ?_
 rintro _ _ ⟨_, ⟨rfl, rfl⟩, rfl⟩
 refine O.m rfl rfl <| O.l (Lo.call [.int .i64 b] (by exact call33) rfl (r01_Count b) [] [] (by decide) rfl [] rfl RoOk.nil) rfl ?_
 rintro _ _ ⟨_, ⟨rfl, rfl⟩, rfl⟩
 refine O.p (Pu.mul rfl rfl) rfl <| O.l (Lo.call [.int .i64 (IntKind.i64.wrap ((Rp.keep a 2147483647) * (Rp.keep b 2147483647)))] (by exact call33) rfl (r01_Count (IntKind.i64.wrap ((Rp.keep a 2147483647) * (Rp.keep b 2147483647)))) [] [] (by decide) rfl [] rfl RoOk.nil) rfl ?_
 rintro _ _ ⟨_, ⟨rfl, rfl⟩, rfl⟩
 refine O.a rfl rfl <| O.nil ?_
 exact J.ret (Fin.ret (rs := [.tmp 4]) rfl [_] ⟨rfl, trivial⟩ [] (by decide) [] rfl ⟨rfl, rfl⟩)

set_option maxRecDepth 100000 in
theorem rp_names  : Tri prog 21 #[] [] [] (fun v L' => L' = [row v 9 1 (Rp.names.map encS)]) := by
 refine Tri.enter (args := []) (body := _) 2 func21 rfl ntmps21 rfl ?_
 intro w0
 refine J.seq <| J.region <| O.a rfl rfl <| O.nil <| J.seq <| J.region <| O.l (Lo.buildM (s := 1) encS [[100, 101, 99, 105, 100, 101, 100], [112, 97, 115, 115, 101, 100], [114, 101, 102, 117, 115, 101, 100], [115, 116, 97, 114, 116, 101, 100], [103, 111, 111, 100], [98, 97, 100], [101, 114, 97, 115, 101, 100], [99, 97, 108, 108, 115], [115, 107, 105, 112, 115], [119, 105, 110, 100, 111, 119, 115], [119, 111, 114, 115, 116], [115, 104, 97, 114, 101]] [(0, str ([100, 101, 99, 105, 100, 101, 100])), (1, str ([112, 97, 115, 115, 101, 100])), (2, str ([114, 101, 102, 117, 115, 101, 100])), (3, str ([115, 116, 97, 114, 116, 101, 100])), (4, str ([103, 111, 111, 100])), (5, str ([98, 97, 100])), (6, str ([101, 114, 97, 115, 101, 100])), (7, str ([99, 97, 108, 108, 115])), (8, str ([115, 107, 105, 112, 115])), (9, str ([119, 105, 110, 100, 111, 119, 115])), (10, str ([119, 111, 114, 115, 116])), (11, str ([115, 104, 97, 114, 101]))] (by exact runUnderlying50) (by exact sizeOf9) (by exact zeroValue9) rfl rfl rfl (by kernel_rfl) rfl rfl) rfl ?_
 rintro V1 _ rfl
 refine O.a rfl rfl <| O.nil ?_
 exact J.ret (Fin.ret (rs := [.tmp 0]) rfl [_] ⟨rfl, trivial⟩ [0] (by decide) [row V1 9 1 (([[100, 101, 99, 105, 100, 101, 100], [112, 97, 115, 115, 101, 100], [114, 101, 102, 117, 115, 101, 100], [115, 116, 97, 114, 116, 101, 100], [103, 111, 111, 100], [98, 97, 100], [101, 114, 97, 115, 101, 100], [99, 97, 108, 108, 115], [115, 107, 105, 112, 115], [119, 105, 110, 100, 111, 119, 115], [119, 111, 114, 115, 116], [115, 104, 97, 114, 101]]).map encS)] rfl rfl)

set_option maxRecDepth 100000 in
theorem rp_fields (gr : Nat) : Tri prog 22 #[.pointer (some ⟨gr, 0, none⟩)] [] [] (fun v L' => v = .agg #[.pointer (some ⟨gr, 0, none⟩), .pointer (some ⟨gr, 1, none⟩), .pointer (some ⟨gr, 2, none⟩), .pointer (some ⟨gr, 3, none⟩), .pointer (some ⟨gr, 4, none⟩), .pointer (some ⟨gr, 5, none⟩), .pointer (some ⟨gr, 6, none⟩), .pointer (some ⟨gr, 7, none⟩), .pointer (some ⟨gr, 8, none⟩), .pointer (some ⟨gr, 9, none⟩), .pointer (some ⟨gr, 10, none⟩), .pointer (some ⟨gr, 11, none⟩)] ∧ L' = []) := by
 refine Tri.enter (args := [.pointer (some ⟨gr, 0, none⟩)]) (body := _) 40 func22 rfl ntmps22 rfl ?_
 intro w0
 refine J.seq <| J.region <| O.l (Lo.alloc [Value.pointer none, Value.pointer none, Value.pointer none, Value.pointer none, Value.pointer none, Value.pointer none, Value.pointer none, Value.pointer none, Value.pointer none, Value.pointer none, Value.pointer none, Value.pointer none] (by exact zeroValue53) rfl) rfl ?_
 rintro _ _ ⟨g1, rfl, rfl⟩
 refine O.nil <| J.seq <| J.drawTail 37 Tryz.mixed (by kernel_rfl) <| S.m rfl rfl <| S.p (Pu.nilCheck rfl) rfl <| S.p (Pu.fieldAddr (off' := 0) runUnderlying23 rfl sizeOf3 rfl rfl rfl) rfl <| S.m rfl rfl <| S.p (Pu.nilCheck rfl) rfl <| S.p (Pu.fieldAddr (off' := 1) runUnderlying23 rfl sizeOf3 rfl rfl rfl) rfl <| S.m rfl rfl <| S.p (Pu.nilCheck rfl) rfl <| S.p (Pu.fieldAddr (off' := 2) runUnderlying23 rfl sizeOf3 rfl rfl rfl) rfl ?_
 refine S.m rfl rfl <| S.p (Pu.nilCheck rfl) rfl <| S.p (Pu.fieldAddr (off' := 3) runUnderlying23 rfl sizeOf3 rfl rfl rfl) rfl <| S.m rfl rfl <| S.p (Pu.nilCheck rfl) rfl <| S.p (Pu.fieldAddr (off' := 4) runUnderlying23 rfl sizeOf3 rfl rfl rfl) rfl <| S.m rfl rfl <| S.p (Pu.nilCheck rfl) rfl <| S.p (Pu.fieldAddr (off' := 5) runUnderlying23 rfl sizeOf3 rfl rfl rfl) rfl <| S.m rfl rfl <| S.p (Pu.nilCheck rfl) rfl <| S.p (Pu.fieldAddr (off' := 6) runUnderlying23 rfl sizeOf3 rfl rfl rfl) rfl ?_
 refine S.m rfl rfl <| S.p (Pu.nilCheck rfl) rfl <| S.p (Pu.fieldAddr (off' := 7) runUnderlying23 rfl sizeOf3 rfl rfl rfl) rfl <| S.m rfl rfl <| S.p (Pu.nilCheck rfl) rfl <| S.p (Pu.fieldAddr (off' := 8) runUnderlying23 rfl sizeOf3 rfl rfl rfl) rfl <| S.m rfl rfl <| S.p (Pu.nilCheck rfl) rfl <| S.p (Pu.fieldAddr (off' := 9) runUnderlying23 rfl sizeOf3 rfl rfl rfl) rfl <| S.m rfl rfl <| S.p (Pu.nilCheck rfl) rfl <| S.p (Pu.fieldAddr (off' := 10) runUnderlying23 rfl sizeOf3 rfl rfl rfl) rfl ?_
 refine S.m rfl rfl <| S.p (Pu.nilCheck rfl) rfl <| S.p (Pu.fieldAddr (off' := 11) runUnderlying23 rfl sizeOf3 rfl rfl rfl) rfl <| S.p (Pu.buildA [(0, .pointer (some ⟨gr, 0, none⟩)), (1, .pointer (some ⟨gr, 1, none⟩)), (2, .pointer (some ⟨gr, 2, none⟩)), (3, .pointer (some ⟨gr, 3, none⟩)), (4, .pointer (some ⟨gr, 4, none⟩)), (5, .pointer (some ⟨gr, 5, none⟩)), (6, .pointer (some ⟨gr, 6, none⟩)), (7, .pointer (some ⟨gr, 7, none⟩)), (8, .pointer (some ⟨gr, 8, none⟩)), (9, .pointer (some ⟨gr, 9, none⟩)), (10, .pointer (some ⟨gr, 10, none⟩)), (11, .pointer (some ⟨gr, 11, none⟩))] [.pointer (some ⟨gr, 0, none⟩), .pointer (some ⟨gr, 1, none⟩), .pointer (some ⟨gr, 2, none⟩), .pointer (some ⟨gr, 3, none⟩), .pointer (some ⟨gr, 4, none⟩), .pointer (some ⟨gr, 5, none⟩), .pointer (some ⟨gr, 6, none⟩), .pointer (some ⟨gr, 7, none⟩), .pointer (some ⟨gr, 8, none⟩), .pointer (some ⟨gr, 9, none⟩), .pointer (some ⟨gr, 10, none⟩), .pointer (some ⟨gr, 11, none⟩)] runUnderlying53 zeroValue53 sizeOf52 rfl (by kernel_rfl)) rfl <| S.endO <| O.l0 (Lo.store 0 (vs := [.pointer (some ⟨gr, 0, none⟩), .pointer (some ⟨gr, 1, none⟩), .pointer (some ⟨gr, 2, none⟩), .pointer (some ⟨gr, 3, none⟩), .pointer (some ⟨gr, 4, none⟩), .pointer (some ⟨gr, 5, none⟩), .pointer (some ⟨gr, 6, none⟩), .pointer (some ⟨gr, 7, none⟩), .pointer (some ⟨gr, 8, none⟩), .pointer (some ⟨gr, 9, none⟩), .pointer (some ⟨gr, 10, none⟩), .pointer (some ⟨gr, 11, none⟩)]) [.pointer (some ⟨gr, 0, none⟩), .pointer (some ⟨gr, 1, none⟩), .pointer (some ⟨gr, 2, none⟩), .pointer (some ⟨gr, 3, none⟩), .pointer (some ⟨gr, 4, none⟩), .pointer (some ⟨gr, 5, none⟩), .pointer (some ⟨gr, 6, none⟩), .pointer (some ⟨gr, 7, none⟩), .pointer (some ⟨gr, 8, none⟩), .pointer (some ⟨gr, 9, none⟩), .pointer (some ⟨gr, 10, none⟩), .pointer (some ⟨gr, 11, none⟩)] rfl rfl rfl (by exact sizeOf53) rfl rfl rfl rfl rfl) ?_
 rintro _ _ rfl
 refine O.nil ?_
 exact J.ret (Fin.ret (rs := [.cell 2 53]) rfl [_] ⟨⟨_, _, 0, 0, _, rfl, (Cel.var 0 rfl), rfl, (Cut.agg [.pointer (some ⟨gr, 0, none⟩), .pointer (some ⟨gr, 1, none⟩), .pointer (some ⟨gr, 2, none⟩), .pointer (some ⟨gr, 3, none⟩), .pointer (some ⟨gr, 4, none⟩), .pointer (some ⟨gr, 5, none⟩), .pointer (some ⟨gr, 6, none⟩), .pointer (some ⟨gr, 7, none⟩), .pointer (some ⟨gr, 8, none⟩), .pointer (some ⟨gr, 9, none⟩), .pointer (some ⟨gr, 10, none⟩), .pointer (some ⟨gr, 11, none⟩)] isAgg53 sizeOf53 rfl rfl)⟩, trivial⟩ [] (by decide) [] rfl ⟨rfl, rfl⟩)

set_option maxRecDepth 100000 in
theorem rp_add0 (gr : Nat) (x0 x1 x2 x3 x4 x5 x6 x7 x8 x9 x10 x11 : Int) (so : Bool) : Tri prog 66 #[.pointer (some ⟨gr, 0, none⟩), .bool so] [] [var gr [.int .i64 x0, .int .i64 x1, .int .i64 x2, .int .i64 x3, .int .i64 x4, .int .i64 x5, .int .i64 x6, .int .i64 x7, .int .i64 x8, .int .i64 x9, .int .i64 x10, .int .i64 x11] 23] (fun v L' => v = .tuple #[] ∧ L' = [var gr [.int .i64 (Rp.inc so x0), .int .i64 x1, .int .i64 x2, .int .i64 x3, .int .i64 x4, .int .i64 x5, .int .i64 x6, .int .i64 x7, .int .i64 x8, .int .i64 x9, .int .i64 x10, .int .i64 x11] 23]) := by
 refine Tri.enter (args := [.pointer (some ⟨gr, 0, none⟩), .bool so]) (body := _) 10 func66 rfl ntmps66 rfl ?_
 intro w0
 refine J.seq <| J.region <| O.m rfl rfl <| O.nil ?_
 refine J.cond rfl (fun h1 => ?_) (fun h1 => ?_)
 ·
  subst h1
  refine J.region <| O.m rfl rfl <| O.p (Pu.nilCheck rfl) rfl <| O.q (Qt.ld rfl (Cel.var 0 rfl) (o := 0) (off := 0) rfl (Cut.one isAgg3 rfl)) rfl <| O.p (Pu.add rfl rfl) rfl <| O.p (Pu.nilCheck rfl) rfl <| O.l0 (Lo.store 0 (vs := [.int .i64 (IntKind.i64.wrap (x0 + 1))]) [.int .i64 (IntKind.i64.wrap (x0 + 1)), .int .i64 x1, .int .i64 x2, .int .i64 x3, .int .i64 x4, .int .i64 x5, .int .i64 x6, .int .i64 x7, .int .i64 x8, .int .i64 x9, .int .i64 x10, .int .i64 x11] rfl rfl rfl (by exact sizeOf3) rfl rfl rfl rfl rfl) ?_
  rintro _ _ rfl
  refine O.nil ?_
  exact J.done (Fin.ret (rs := []) rfl [] trivial [0] (by decide) [var gr [.int .i64 (IntKind.i64.wrap (x0 + 1)), .int .i64 x1, .int .i64 x2, .int .i64 x3, .int .i64 x4, .int .i64 x5, .int .i64 x6, .int .i64 x7, .int .i64 x8, .int .i64 x9, .int .i64 x10, .int .i64 x11] 23] rfl ⟨rfl, rfl⟩)
 ·
  subst h1
  refine J.skip ?_
  exact J.done (Fin.ret (rs := []) rfl [] trivial [0] (by decide) [var gr [.int .i64 x0, .int .i64 x1, .int .i64 x2, .int .i64 x3, .int .i64 x4, .int .i64 x5, .int .i64 x6, .int .i64 x7, .int .i64 x8, .int .i64 x9, .int .i64 x10, .int .i64 x11] 23] rfl ⟨rfl, rfl⟩)

set_option maxRecDepth 100000 in
theorem rp_add1 (gr : Nat) (x0 x1 x2 x3 x4 x5 x6 x7 x8 x9 x10 x11 : Int) (so : Bool) : Tri prog 66 #[.pointer (some ⟨gr, 1, none⟩), .bool so] [] [var gr [.int .i64 x0, .int .i64 x1, .int .i64 x2, .int .i64 x3, .int .i64 x4, .int .i64 x5, .int .i64 x6, .int .i64 x7, .int .i64 x8, .int .i64 x9, .int .i64 x10, .int .i64 x11] 23] (fun v L' => v = .tuple #[] ∧ L' = [var gr [.int .i64 x0, .int .i64 (Rp.inc so x1), .int .i64 x2, .int .i64 x3, .int .i64 x4, .int .i64 x5, .int .i64 x6, .int .i64 x7, .int .i64 x8, .int .i64 x9, .int .i64 x10, .int .i64 x11] 23]) := by
 refine Tri.enter (args := [.pointer (some ⟨gr, 1, none⟩), .bool so]) (body := _) 10 func66 rfl ntmps66 rfl ?_
 intro w0
 refine J.seq <| J.region <| O.m rfl rfl <| O.nil ?_
 refine J.cond rfl (fun h1 => ?_) (fun h1 => ?_)
 ·
  subst h1
  refine J.region <| O.m rfl rfl <| O.p (Pu.nilCheck rfl) rfl <| O.q (Qt.ld rfl (Cel.var 0 rfl) (o := 0) (off := 1) rfl (Cut.one isAgg3 rfl)) rfl <| O.p (Pu.add rfl rfl) rfl <| O.p (Pu.nilCheck rfl) rfl <| O.l0 (Lo.store 0 (vs := [.int .i64 (IntKind.i64.wrap (x1 + 1))]) [.int .i64 x0, .int .i64 (IntKind.i64.wrap (x1 + 1)), .int .i64 x2, .int .i64 x3, .int .i64 x4, .int .i64 x5, .int .i64 x6, .int .i64 x7, .int .i64 x8, .int .i64 x9, .int .i64 x10, .int .i64 x11] rfl rfl rfl (by exact sizeOf3) rfl rfl rfl rfl rfl) ?_
  rintro _ _ rfl
  refine O.nil ?_
  exact J.done (Fin.ret (rs := []) rfl [] trivial [0] (by decide) [var gr [.int .i64 x0, .int .i64 (IntKind.i64.wrap (x1 + 1)), .int .i64 x2, .int .i64 x3, .int .i64 x4, .int .i64 x5, .int .i64 x6, .int .i64 x7, .int .i64 x8, .int .i64 x9, .int .i64 x10, .int .i64 x11] 23] rfl ⟨rfl, rfl⟩)
 ·
  subst h1
  refine J.skip ?_
  exact J.done (Fin.ret (rs := []) rfl [] trivial [0] (by decide) [var gr [.int .i64 x0, .int .i64 x1, .int .i64 x2, .int .i64 x3, .int .i64 x4, .int .i64 x5, .int .i64 x6, .int .i64 x7, .int .i64 x8, .int .i64 x9, .int .i64 x10, .int .i64 x11] 23] rfl ⟨rfl, rfl⟩)

set_option maxRecDepth 100000 in
theorem rp_add2 (gr : Nat) (x0 x1 x2 x3 x4 x5 x6 x7 x8 x9 x10 x11 : Int) (so : Bool) : Tri prog 66 #[.pointer (some ⟨gr, 2, none⟩), .bool so] [] [var gr [.int .i64 x0, .int .i64 x1, .int .i64 x2, .int .i64 x3, .int .i64 x4, .int .i64 x5, .int .i64 x6, .int .i64 x7, .int .i64 x8, .int .i64 x9, .int .i64 x10, .int .i64 x11] 23] (fun v L' => v = .tuple #[] ∧ L' = [var gr [.int .i64 x0, .int .i64 x1, .int .i64 (Rp.inc so x2), .int .i64 x3, .int .i64 x4, .int .i64 x5, .int .i64 x6, .int .i64 x7, .int .i64 x8, .int .i64 x9, .int .i64 x10, .int .i64 x11] 23]) := by
 refine Tri.enter (args := [.pointer (some ⟨gr, 2, none⟩), .bool so]) (body := _) 10 func66 rfl ntmps66 rfl ?_
 intro w0
 refine J.seq <| J.region <| O.m rfl rfl <| O.nil ?_
 refine J.cond rfl (fun h1 => ?_) (fun h1 => ?_)
 ·
  subst h1
  refine J.region <| O.m rfl rfl <| O.p (Pu.nilCheck rfl) rfl <| O.q (Qt.ld rfl (Cel.var 0 rfl) (o := 0) (off := 2) rfl (Cut.one isAgg3 rfl)) rfl <| O.p (Pu.add rfl rfl) rfl <| O.p (Pu.nilCheck rfl) rfl <| O.l0 (Lo.store 0 (vs := [.int .i64 (IntKind.i64.wrap (x2 + 1))]) [.int .i64 x0, .int .i64 x1, .int .i64 (IntKind.i64.wrap (x2 + 1)), .int .i64 x3, .int .i64 x4, .int .i64 x5, .int .i64 x6, .int .i64 x7, .int .i64 x8, .int .i64 x9, .int .i64 x10, .int .i64 x11] rfl rfl rfl (by exact sizeOf3) rfl rfl rfl rfl rfl) ?_
  rintro _ _ rfl
  refine O.nil ?_
  exact J.done (Fin.ret (rs := []) rfl [] trivial [0] (by decide) [var gr [.int .i64 x0, .int .i64 x1, .int .i64 (IntKind.i64.wrap (x2 + 1)), .int .i64 x3, .int .i64 x4, .int .i64 x5, .int .i64 x6, .int .i64 x7, .int .i64 x8, .int .i64 x9, .int .i64 x10, .int .i64 x11] 23] rfl ⟨rfl, rfl⟩)
 ·
  subst h1
  refine J.skip ?_
  exact J.done (Fin.ret (rs := []) rfl [] trivial [0] (by decide) [var gr [.int .i64 x0, .int .i64 x1, .int .i64 x2, .int .i64 x3, .int .i64 x4, .int .i64 x5, .int .i64 x6, .int .i64 x7, .int .i64 x8, .int .i64 x9, .int .i64 x10, .int .i64 x11] 23] rfl ⟨rfl, rfl⟩)

set_option maxRecDepth 100000 in
theorem rp_add3 (gr : Nat) (x0 x1 x2 x3 x4 x5 x6 x7 x8 x9 x10 x11 : Int) (so : Bool) : Tri prog 66 #[.pointer (some ⟨gr, 3, none⟩), .bool so] [] [var gr [.int .i64 x0, .int .i64 x1, .int .i64 x2, .int .i64 x3, .int .i64 x4, .int .i64 x5, .int .i64 x6, .int .i64 x7, .int .i64 x8, .int .i64 x9, .int .i64 x10, .int .i64 x11] 23] (fun v L' => v = .tuple #[] ∧ L' = [var gr [.int .i64 x0, .int .i64 x1, .int .i64 x2, .int .i64 (Rp.inc so x3), .int .i64 x4, .int .i64 x5, .int .i64 x6, .int .i64 x7, .int .i64 x8, .int .i64 x9, .int .i64 x10, .int .i64 x11] 23]) := by
 refine Tri.enter (args := [.pointer (some ⟨gr, 3, none⟩), .bool so]) (body := _) 10 func66 rfl ntmps66 rfl ?_
 intro w0
 refine J.seq <| J.region <| O.m rfl rfl <| O.nil ?_
 refine J.cond rfl (fun h1 => ?_) (fun h1 => ?_)
 ·
  subst h1
  refine J.region <| O.m rfl rfl <| O.p (Pu.nilCheck rfl) rfl <| O.q (Qt.ld rfl (Cel.var 0 rfl) (o := 0) (off := 3) rfl (Cut.one isAgg3 rfl)) rfl <| O.p (Pu.add rfl rfl) rfl <| O.p (Pu.nilCheck rfl) rfl <| O.l0 (Lo.store 0 (vs := [.int .i64 (IntKind.i64.wrap (x3 + 1))]) [.int .i64 x0, .int .i64 x1, .int .i64 x2, .int .i64 (IntKind.i64.wrap (x3 + 1)), .int .i64 x4, .int .i64 x5, .int .i64 x6, .int .i64 x7, .int .i64 x8, .int .i64 x9, .int .i64 x10, .int .i64 x11] rfl rfl rfl (by exact sizeOf3) rfl rfl rfl rfl rfl) ?_
  rintro _ _ rfl
  refine O.nil ?_
  exact J.done (Fin.ret (rs := []) rfl [] trivial [0] (by decide) [var gr [.int .i64 x0, .int .i64 x1, .int .i64 x2, .int .i64 (IntKind.i64.wrap (x3 + 1)), .int .i64 x4, .int .i64 x5, .int .i64 x6, .int .i64 x7, .int .i64 x8, .int .i64 x9, .int .i64 x10, .int .i64 x11] 23] rfl ⟨rfl, rfl⟩)
 ·
  subst h1
  refine J.skip ?_
  exact J.done (Fin.ret (rs := []) rfl [] trivial [0] (by decide) [var gr [.int .i64 x0, .int .i64 x1, .int .i64 x2, .int .i64 x3, .int .i64 x4, .int .i64 x5, .int .i64 x6, .int .i64 x7, .int .i64 x8, .int .i64 x9, .int .i64 x10, .int .i64 x11] 23] rfl ⟨rfl, rfl⟩)

set_option maxRecDepth 100000 in
theorem rp_add4 (gr : Nat) (x0 x1 x2 x3 x4 x5 x6 x7 x8 x9 x10 x11 : Int) (so : Bool) : Tri prog 66 #[.pointer (some ⟨gr, 4, none⟩), .bool so] [] [var gr [.int .i64 x0, .int .i64 x1, .int .i64 x2, .int .i64 x3, .int .i64 x4, .int .i64 x5, .int .i64 x6, .int .i64 x7, .int .i64 x8, .int .i64 x9, .int .i64 x10, .int .i64 x11] 23] (fun v L' => v = .tuple #[] ∧ L' = [var gr [.int .i64 x0, .int .i64 x1, .int .i64 x2, .int .i64 x3, .int .i64 (Rp.inc so x4), .int .i64 x5, .int .i64 x6, .int .i64 x7, .int .i64 x8, .int .i64 x9, .int .i64 x10, .int .i64 x11] 23]) := by
 refine Tri.enter (args := [.pointer (some ⟨gr, 4, none⟩), .bool so]) (body := _) 10 func66 rfl ntmps66 rfl ?_
 intro w0
 refine J.seq <| J.region <| O.m rfl rfl <| O.nil ?_
 refine J.cond rfl (fun h1 => ?_) (fun h1 => ?_)
 ·
  subst h1
  refine J.region <| O.m rfl rfl <| O.p (Pu.nilCheck rfl) rfl <| O.q (Qt.ld rfl (Cel.var 0 rfl) (o := 0) (off := 4) rfl (Cut.one isAgg3 rfl)) rfl <| O.p (Pu.add rfl rfl) rfl <| O.p (Pu.nilCheck rfl) rfl <| O.l0 (Lo.store 0 (vs := [.int .i64 (IntKind.i64.wrap (x4 + 1))]) [.int .i64 x0, .int .i64 x1, .int .i64 x2, .int .i64 x3, .int .i64 (IntKind.i64.wrap (x4 + 1)), .int .i64 x5, .int .i64 x6, .int .i64 x7, .int .i64 x8, .int .i64 x9, .int .i64 x10, .int .i64 x11] rfl rfl rfl (by exact sizeOf3) rfl rfl rfl rfl rfl) ?_
  rintro _ _ rfl
  refine O.nil ?_
  exact J.done (Fin.ret (rs := []) rfl [] trivial [0] (by decide) [var gr [.int .i64 x0, .int .i64 x1, .int .i64 x2, .int .i64 x3, .int .i64 (IntKind.i64.wrap (x4 + 1)), .int .i64 x5, .int .i64 x6, .int .i64 x7, .int .i64 x8, .int .i64 x9, .int .i64 x10, .int .i64 x11] 23] rfl ⟨rfl, rfl⟩)
 ·
  subst h1
  refine J.skip ?_
  exact J.done (Fin.ret (rs := []) rfl [] trivial [0] (by decide) [var gr [.int .i64 x0, .int .i64 x1, .int .i64 x2, .int .i64 x3, .int .i64 x4, .int .i64 x5, .int .i64 x6, .int .i64 x7, .int .i64 x8, .int .i64 x9, .int .i64 x10, .int .i64 x11] 23] rfl ⟨rfl, rfl⟩)

set_option maxRecDepth 100000 in
theorem rp_add5 (gr : Nat) (x0 x1 x2 x3 x4 x5 x6 x7 x8 x9 x10 x11 : Int) (so : Bool) : Tri prog 66 #[.pointer (some ⟨gr, 5, none⟩), .bool so] [] [var gr [.int .i64 x0, .int .i64 x1, .int .i64 x2, .int .i64 x3, .int .i64 x4, .int .i64 x5, .int .i64 x6, .int .i64 x7, .int .i64 x8, .int .i64 x9, .int .i64 x10, .int .i64 x11] 23] (fun v L' => v = .tuple #[] ∧ L' = [var gr [.int .i64 x0, .int .i64 x1, .int .i64 x2, .int .i64 x3, .int .i64 x4, .int .i64 (Rp.inc so x5), .int .i64 x6, .int .i64 x7, .int .i64 x8, .int .i64 x9, .int .i64 x10, .int .i64 x11] 23]) := by
 refine Tri.enter (args := [.pointer (some ⟨gr, 5, none⟩), .bool so]) (body := _) 10 func66 rfl ntmps66 rfl ?_
 intro w0
 refine J.seq <| J.region <| O.m rfl rfl <| O.nil ?_
 refine J.cond rfl (fun h1 => ?_) (fun h1 => ?_)
 ·
  subst h1
  refine J.region <| O.m rfl rfl <| O.p (Pu.nilCheck rfl) rfl <| O.q (Qt.ld rfl (Cel.var 0 rfl) (o := 0) (off := 5) rfl (Cut.one isAgg3 rfl)) rfl <| O.p (Pu.add rfl rfl) rfl <| O.p (Pu.nilCheck rfl) rfl <| O.l0 (Lo.store 0 (vs := [.int .i64 (IntKind.i64.wrap (x5 + 1))]) [.int .i64 x0, .int .i64 x1, .int .i64 x2, .int .i64 x3, .int .i64 x4, .int .i64 (IntKind.i64.wrap (x5 + 1)), .int .i64 x6, .int .i64 x7, .int .i64 x8, .int .i64 x9, .int .i64 x10, .int .i64 x11] rfl rfl rfl (by exact sizeOf3) rfl rfl rfl rfl rfl) ?_
  rintro _ _ rfl
  refine O.nil ?_
  exact J.done (Fin.ret (rs := []) rfl [] trivial [0] (by decide) [var gr [.int .i64 x0, .int .i64 x1, .int .i64 x2, .int .i64 x3, .int .i64 x4, .int .i64 (IntKind.i64.wrap (x5 + 1)), .int .i64 x6, .int .i64 x7, .int .i64 x8, .int .i64 x9, .int .i64 x10, .int .i64 x11] 23] rfl ⟨rfl, rfl⟩)
 ·
  subst h1
  refine J.skip ?_
  exact J.done (Fin.ret (rs := []) rfl [] trivial [0] (by decide) [var gr [.int .i64 x0, .int .i64 x1, .int .i64 x2, .int .i64 x3, .int .i64 x4, .int .i64 x5, .int .i64 x6, .int .i64 x7, .int .i64 x8, .int .i64 x9, .int .i64 x10, .int .i64 x11] 23] rfl ⟨rfl, rfl⟩)

set_option maxRecDepth 100000 in
theorem rp_add6 (gr : Nat) (x0 x1 x2 x3 x4 x5 x6 x7 x8 x9 x10 x11 : Int) (so : Bool) : Tri prog 66 #[.pointer (some ⟨gr, 6, none⟩), .bool so] [] [var gr [.int .i64 x0, .int .i64 x1, .int .i64 x2, .int .i64 x3, .int .i64 x4, .int .i64 x5, .int .i64 x6, .int .i64 x7, .int .i64 x8, .int .i64 x9, .int .i64 x10, .int .i64 x11] 23] (fun v L' => v = .tuple #[] ∧ L' = [var gr [.int .i64 x0, .int .i64 x1, .int .i64 x2, .int .i64 x3, .int .i64 x4, .int .i64 x5, .int .i64 (Rp.inc so x6), .int .i64 x7, .int .i64 x8, .int .i64 x9, .int .i64 x10, .int .i64 x11] 23]) := by
 refine Tri.enter (args := [.pointer (some ⟨gr, 6, none⟩), .bool so]) (body := _) 10 func66 rfl ntmps66 rfl ?_
 intro w0
 refine J.seq <| J.region <| O.m rfl rfl <| O.nil ?_
 refine J.cond rfl (fun h1 => ?_) (fun h1 => ?_)
 ·
  subst h1
  refine J.region <| O.m rfl rfl <| O.p (Pu.nilCheck rfl) rfl <| O.q (Qt.ld rfl (Cel.var 0 rfl) (o := 0) (off := 6) rfl (Cut.one isAgg3 rfl)) rfl <| O.p (Pu.add rfl rfl) rfl <| O.p (Pu.nilCheck rfl) rfl <| O.l0 (Lo.store 0 (vs := [.int .i64 (IntKind.i64.wrap (x6 + 1))]) [.int .i64 x0, .int .i64 x1, .int .i64 x2, .int .i64 x3, .int .i64 x4, .int .i64 x5, .int .i64 (IntKind.i64.wrap (x6 + 1)), .int .i64 x7, .int .i64 x8, .int .i64 x9, .int .i64 x10, .int .i64 x11] rfl rfl rfl (by exact sizeOf3) rfl rfl rfl rfl rfl) ?_
  rintro _ _ rfl
  refine O.nil ?_
  exact J.done (Fin.ret (rs := []) rfl [] trivial [0] (by decide) [var gr [.int .i64 x0, .int .i64 x1, .int .i64 x2, .int .i64 x3, .int .i64 x4, .int .i64 x5, .int .i64 (IntKind.i64.wrap (x6 + 1)), .int .i64 x7, .int .i64 x8, .int .i64 x9, .int .i64 x10, .int .i64 x11] 23] rfl ⟨rfl, rfl⟩)
 ·
  subst h1
  refine J.skip ?_
  exact J.done (Fin.ret (rs := []) rfl [] trivial [0] (by decide) [var gr [.int .i64 x0, .int .i64 x1, .int .i64 x2, .int .i64 x3, .int .i64 x4, .int .i64 x5, .int .i64 x6, .int .i64 x7, .int .i64 x8, .int .i64 x9, .int .i64 x10, .int .i64 x11] 23] rfl ⟨rfl, rfl⟩)

set_option maxRecDepth 100000 in
theorem rp_add7 (gr : Nat) (x0 x1 x2 x3 x4 x5 x6 x7 x8 x9 x10 x11 : Int) (so : Bool) : Tri prog 66 #[.pointer (some ⟨gr, 7, none⟩), .bool so] [] [var gr [.int .i64 x0, .int .i64 x1, .int .i64 x2, .int .i64 x3, .int .i64 x4, .int .i64 x5, .int .i64 x6, .int .i64 x7, .int .i64 x8, .int .i64 x9, .int .i64 x10, .int .i64 x11] 23] (fun v L' => v = .tuple #[] ∧ L' = [var gr [.int .i64 x0, .int .i64 x1, .int .i64 x2, .int .i64 x3, .int .i64 x4, .int .i64 x5, .int .i64 x6, .int .i64 (Rp.inc so x7), .int .i64 x8, .int .i64 x9, .int .i64 x10, .int .i64 x11] 23]) := by
 refine Tri.enter (args := [.pointer (some ⟨gr, 7, none⟩), .bool so]) (body := _) 10 func66 rfl ntmps66 rfl ?_
 intro w0
 refine J.seq <| J.region <| O.m rfl rfl <| O.nil ?_
 refine J.cond rfl (fun h1 => ?_) (fun h1 => ?_)
 ·
  subst h1
  refine J.region <| O.m rfl rfl <| O.p (Pu.nilCheck rfl) rfl <| O.q (Qt.ld rfl (Cel.var 0 rfl) (o := 0) (off := 7) rfl (Cut.one isAgg3 rfl)) rfl <| O.p (Pu.add rfl rfl) rfl <| O.p (Pu.nilCheck rfl) rfl <| O.l0 (Lo.store 0 (vs := [.int .i64 (IntKind.i64.wrap (x7 + 1))]) [.int .i64 x0, .int .i64 x1, .int .i64 x2, .int .i64 x3, .int .i64 x4, .int .i64 x5, .int .i64 x6, .int .i64 (IntKind.i64.wrap (x7 + 1)), .int .i64 x8, .int .i64 x9, .int .i64 x10, .int .i64 x11] rfl rfl rfl (by exact sizeOf3) rfl rfl rfl rfl rfl) ?_
  rintro _ _ rfl
  refine O.nil ?_
  exact J.done (Fin.ret (rs := []) rfl [] trivial [0] (by decide) [var gr [.int .i64 x0, .int .i64 x1, .int .i64 x2, .int .i64 x3, .int .i64 x4, .int .i64 x5, .int .i64 x6, .int .i64 (IntKind.i64.wrap (x7 + 1)), .int .i64 x8, .int .i64 x9, .int .i64 x10, .int .i64 x11] 23] rfl ⟨rfl, rfl⟩)
 ·
  subst h1
  refine J.skip ?_
  exact J.done (Fin.ret (rs := []) rfl [] trivial [0] (by decide) [var gr [.int .i64 x0, .int .i64 x1, .int .i64 x2, .int .i64 x3, .int .i64 x4, .int .i64 x5, .int .i64 x6, .int .i64 x7, .int .i64 x8, .int .i64 x9, .int .i64 x10, .int .i64 x11] 23] rfl ⟨rfl, rfl⟩)

set_option maxRecDepth 100000 in
theorem rp_add8 (gr : Nat) (x0 x1 x2 x3 x4 x5 x6 x7 x8 x9 x10 x11 : Int) (so : Bool) : Tri prog 66 #[.pointer (some ⟨gr, 8, none⟩), .bool so] [] [var gr [.int .i64 x0, .int .i64 x1, .int .i64 x2, .int .i64 x3, .int .i64 x4, .int .i64 x5, .int .i64 x6, .int .i64 x7, .int .i64 x8, .int .i64 x9, .int .i64 x10, .int .i64 x11] 23] (fun v L' => v = .tuple #[] ∧ L' = [var gr [.int .i64 x0, .int .i64 x1, .int .i64 x2, .int .i64 x3, .int .i64 x4, .int .i64 x5, .int .i64 x6, .int .i64 x7, .int .i64 (Rp.inc so x8), .int .i64 x9, .int .i64 x10, .int .i64 x11] 23]) := by
 refine Tri.enter (args := [.pointer (some ⟨gr, 8, none⟩), .bool so]) (body := _) 10 func66 rfl ntmps66 rfl ?_
 intro w0
 refine J.seq <| J.region <| O.m rfl rfl <| O.nil ?_
 refine J.cond rfl (fun h1 => ?_) (fun h1 => ?_)
 ·
  subst h1
  refine J.region <| O.m rfl rfl <| O.p (Pu.nilCheck rfl) rfl <| O.q (Qt.ld rfl (Cel.var 0 rfl) (o := 0) (off := 8) rfl (Cut.one isAgg3 rfl)) rfl <| O.p (Pu.add rfl rfl) rfl <| O.p (Pu.nilCheck rfl) rfl <| O.l0 (Lo.store 0 (vs := [.int .i64 (IntKind.i64.wrap (x8 + 1))]) [.int .i64 x0, .int .i64 x1, .int .i64 x2, .int .i64 x3, .int .i64 x4, .int .i64 x5, .int .i64 x6, .int .i64 x7, .int .i64 (IntKind.i64.wrap (x8 + 1)), .int .i64 x9, .int .i64 x10, .int .i64 x11] rfl rfl rfl (by exact sizeOf3) rfl rfl rfl rfl rfl) ?_
  rintro _ _ rfl
  refine O.nil ?_
  exact J.done (Fin.ret (rs := []) rfl [] trivial [0] (by decide) [var gr [.int .i64 x0, .int .i64 x1, .int .i64 x2, .int .i64 x3, .int .i64 x4, .int .i64 x5, .int .i64 x6, .int .i64 x7, .int .i64 (IntKind.i64.wrap (x8 + 1)), .int .i64 x9, .int .i64 x10, .int .i64 x11] 23] rfl ⟨rfl, rfl⟩)
 ·
  subst h1
  refine J.skip ?_
  exact J.done (Fin.ret (rs := []) rfl [] trivial [0] (by decide) [var gr [.int .i64 x0, .int .i64 x1, .int .i64 x2, .int .i64 x3, .int .i64 x4, .int .i64 x5, .int .i64 x6, .int .i64 x7, .int .i64 x8, .int .i64 x9, .int .i64 x10, .int .i64 x11] 23] rfl ⟨rfl, rfl⟩)

set_option maxRecDepth 100000 in
theorem rp_add9 (gr : Nat) (x0 x1 x2 x3 x4 x5 x6 x7 x8 x9 x10 x11 : Int) (so : Bool) : Tri prog 66 #[.pointer (some ⟨gr, 9, none⟩), .bool so] [] [var gr [.int .i64 x0, .int .i64 x1, .int .i64 x2, .int .i64 x3, .int .i64 x4, .int .i64 x5, .int .i64 x6, .int .i64 x7, .int .i64 x8, .int .i64 x9, .int .i64 x10, .int .i64 x11] 23] (fun v L' => v = .tuple #[] ∧ L' = [var gr [.int .i64 x0, .int .i64 x1, .int .i64 x2, .int .i64 x3, .int .i64 x4, .int .i64 x5, .int .i64 x6, .int .i64 x7, .int .i64 x8, .int .i64 (Rp.inc so x9), .int .i64 x10, .int .i64 x11] 23]) := by
 refine Tri.enter (args := [.pointer (some ⟨gr, 9, none⟩), .bool so]) (body := _) 10 func66 rfl ntmps66 rfl ?_
 intro w0
 refine J.seq <| J.region <| O.m rfl rfl <| O.nil ?_
 refine J.cond rfl (fun h1 => ?_) (fun h1 => ?_)
 ·
  subst h1
  refine J.region <| O.m rfl rfl <| O.p (Pu.nilCheck rfl) rfl <| O.q (Qt.ld rfl (Cel.var 0 rfl) (o := 0) (off := 9) rfl (Cut.one isAgg3 rfl)) rfl <| O.p (Pu.add rfl rfl) rfl <| O.p (Pu.nilCheck rfl) rfl <| O.l0 (Lo.store 0 (vs := [.int .i64 (IntKind.i64.wrap (x9 + 1))]) [.int .i64 x0, .int .i64 x1, .int .i64 x2, .int .i64 x3, .int .i64 x4, .int .i64 x5, .int .i64 x6, .int .i64 x7, .int .i64 x8, .int .i64 (IntKind.i64.wrap (x9 + 1)), .int .i64 x10, .int .i64 x11] rfl rfl rfl (by exact sizeOf3) rfl rfl rfl rfl rfl) ?_
  rintro _ _ rfl
  refine O.nil ?_
  exact J.done (Fin.ret (rs := []) rfl [] trivial [0] (by decide) [var gr [.int .i64 x0, .int .i64 x1, .int .i64 x2, .int .i64 x3, .int .i64 x4, .int .i64 x5, .int .i64 x6, .int .i64 x7, .int .i64 x8, .int .i64 (IntKind.i64.wrap (x9 + 1)), .int .i64 x10, .int .i64 x11] 23] rfl ⟨rfl, rfl⟩)
 ·
  subst h1
  refine J.skip ?_
  exact J.done (Fin.ret (rs := []) rfl [] trivial [0] (by decide) [var gr [.int .i64 x0, .int .i64 x1, .int .i64 x2, .int .i64 x3, .int .i64 x4, .int .i64 x5, .int .i64 x6, .int .i64 x7, .int .i64 x8, .int .i64 x9, .int .i64 x10, .int .i64 x11] 23] rfl ⟨rfl, rfl⟩)

set_option maxRecDepth 100000 in
theorem rp_count (gr : Nat) (r : Rep) (x : Ev) : Tri prog 39 #[.pointer (some ⟨gr, 0, none⟩), .agg #[.int .i64 x.kind, .int .i64 x.tick, .int .i64 x.s, .int .i64 x.id, .int .i64 x.code, .int .i64 x.a, .int .i64 x.b]] [] [var gr [.int .i64 r.d0, .int .i64 r.d1, .int .i64 r.d2, .int .i64 r.d3, .int .i64 r.d4, .int .i64 r.d5, .int .i64 r.d6, .int .i64 r.d7, .int .i64 r.d8, .int .i64 r.d9, .int .i64 r.d10, .int .i64 r.d11] 23] (fun v L' => v = .tuple #[] ∧ L' = [var gr (Rep.cells (Rp.cnt r x)) 23]) := by
 refine Tri.enter (args := [.pointer (some ⟨gr, 0, none⟩), .agg #[.int .i64 x.kind, .int .i64 x.tick, .int .i64 x.s, .int .i64 x.id, .int .i64 x.code, .int .i64 x.a, .int .i64 x.b]]) (body := _) 116 func39 rfl ntmps39 rfl ?_
 intro w0
 refine J.seq <| J.region <| O.l (Lo.box [.int .i64 x.kind, .int .i64 x.tick, .int .i64 x.s, .int .i64 x.id, .int .i64 x.code, .int .i64 x.a, .int .i64 x.b] rfl rfl) rfl ?_
 rintro _ _ ⟨g1, rfl, rfl⟩
 refine O.nil <| J.seq <| J.region <| O.a rfl rfl <| O.nil <| J.seq <| J.drawStill Tryz.mixed (by kernel_rfl) <| S.p (Pu.fieldAddr (off' := 0) runUnderlying47 rfl sizeOf3 rfl rfl rfl) rfl <| S.q (Qt.ld rfl (Cel.var 0 rfl) (o := 0) (off := 0) rfl (Cut.one isAgg3 rfl)) rfl <| S.p (Pu.eql rfl rfl) rfl <| S.p (Pu.fieldAddr (off' := 0) runUnderlying47 rfl sizeOf3 rfl rfl rfl) rfl <| S.q (Qt.ld rfl (Cel.var 0 rfl) (o := 0) (off := 0) rfl (Cut.one isAgg3 rfl)) rfl ?_
 refine S.p (Pu.eql rfl rfl) rfl <| S.p (Pu.assign rfl) rfl <| S.p (Pu.assign rfl) rfl <| S.endJ <| J.seq <| J.region <| O.m rfl rfl <| O.m rfl rfl <| O.p (Pu.nilCheck rfl) rfl <| O.p (Pu.fieldAddr (off' := 0) runUnderlying23 rfl sizeOf3 rfl rfl rfl) rfl <| O.m rfl rfl <| O.l (Lo.callV (vs := [.pointer (some ⟨gr, 0, none⟩), .bool (decide (x.kind = 1))]) (caps := []) (by exact call66) rfl rfl (rp_add0 gr r.d0 r.d1 r.d2 r.d3 r.d4 r.d5 r.d6 r.d7 r.d8 r.d9 r.d10 r.d11 (decide (x.kind = 1))) [1] [0] (by decide) rfl [var g1 [.int .i64 x.kind, .int .i64 x.tick, .int .i64 x.s, .int .i64 x.id, .int .i64 x.code, .int .i64 x.a, .int .i64 x.b] 47] rfl RoOk.nil) rfl ?_
 rintro _ _ ⟨_, ⟨rfl, rfl⟩, rfl⟩
 refine O.nil <| J.seq <| J.drawTail 10 Tryz.mixed (by kernel_rfl) <| S.m rfl rfl <| S.m rfl rfl <| S.p (Pu.nilCheck rfl) rfl <| S.p (Pu.fieldAddr (off' := 1) runUnderlying23 rfl sizeOf3 rfl rfl rfl) rfl <| S.m rfl rfl <| S.m rfl rfl ?_
 refine by_bool (decide (x.kind = 1)) (fun h3 => ?_) (fun h3 => ?_)
 ·
  have p4 := of_decide_eq_true h3
  refine S.gq (t := 24) rfl rfl h3 rfl (Pu.qt (Pu.fieldAddr (off' := 4) runUnderlying47 rfl sizeOf3 rfl rfl rfl)) rfl <| S.gq (t := 24) rfl rfl h3 rfl (Qt.ld rfl (Cel.var 1 rfl) (o := 0) (off := 4) rfl (Cut.one isAgg3 rfl)) rfl <| S.gq (t := 24) rfl rfl h3 rfl (Pu.qt (Pu.eql rfl rfl)) rfl <| S.p (Pu.pickT rfl h3 rfl) rfl <| S.endO <| O.l (Lo.callV (vs := [.pointer (some ⟨gr, 1, none⟩), .bool (decide (x.code = 0))]) (caps := []) (by exact call66) rfl rfl (rp_add1 gr (Rp.inc (decide (x.kind = 1)) r.d0) r.d1 r.d2 r.d3 r.d4 r.d5 r.d6 r.d7 r.d8 r.d9 r.d10 r.d11 (decide (x.code = 0))) [0] [1] (by decide) rfl [var g1 [.int .i64 x.kind, .int .i64 x.tick, .int .i64 x.s, .int .i64 x.id, .int .i64 x.code, .int .i64 x.a, .int .i64 x.b] 47] rfl RoOk.nil) rfl ?_
  rintro _ _ ⟨_, ⟨rfl, rfl⟩, rfl⟩
  refine O.nil <| J.seq <| J.drawTail 10 Tryz.mixed (by kernel_rfl) <| S.m rfl rfl <| S.m rfl rfl <| S.p (Pu.nilCheck rfl) rfl <| S.p (Pu.fieldAddr (off' := 2) runUnderlying23 rfl sizeOf3 rfl rfl rfl) rfl <| S.m rfl rfl <| S.m rfl rfl <| S.gq (t := 35) rfl rfl h3 rfl (Pu.qt (Pu.fieldAddr (off' := 4) runUnderlying47 rfl sizeOf3 rfl rfl rfl)) rfl <| S.gq (t := 35) rfl rfl h3 rfl (Qt.ld rfl (Cel.var 1 rfl) (o := 0) (off := 4) rfl (Cut.one isAgg3 rfl)) rfl <| S.gq (t := 35) rfl rfl h3 rfl (Pu.qt (Pu.eql rfl rfl)) rfl ?_
  refine S.p (Pu.pickT rfl h3 rfl) rfl <| S.endO <| O.l (Lo.callV (vs := [.pointer (some ⟨gr, 2, none⟩), .bool (decide (x.code = 2))]) (caps := []) (by exact call66) rfl rfl (rp_add2 gr (Rp.inc (decide (x.kind = 1)) r.d0) (Rp.inc (decide (x.code = 0)) r.d1) r.d2 r.d3 r.d4 r.d5 r.d6 r.d7 r.d8 r.d9 r.d10 r.d11 (decide (x.code = 2))) [0] [1] (by decide) rfl [var g1 [.int .i64 x.kind, .int .i64 x.tick, .int .i64 x.s, .int .i64 x.id, .int .i64 x.code, .int .i64 x.a, .int .i64 x.b] 47] rfl RoOk.nil) rfl ?_
  rintro _ _ ⟨_, ⟨rfl, rfl⟩, rfl⟩
  refine O.nil <| J.seq <| J.drawTail 7 Tryz.mixed (by kernel_rfl) <| S.m rfl rfl <| S.m rfl rfl <| S.p (Pu.nilCheck rfl) rfl <| S.p (Pu.fieldAddr (off' := 3) runUnderlying23 rfl sizeOf3 rfl rfl rfl) rfl <| S.p (Pu.fieldAddr (off' := 0) runUnderlying47 rfl sizeOf3 rfl rfl rfl) rfl <| S.q (Qt.ld rfl (Cel.var 1 rfl) (o := 0) (off := 0) rfl (Cut.one isAgg3 rfl)) rfl <| S.p (Pu.eql rfl rfl) rfl <| S.endO <| O.l (Lo.callV (vs := [.pointer (some ⟨gr, 3, none⟩), .bool (decide (x.kind = 3))]) (caps := []) (by exact call66) rfl rfl (rp_add3 gr (Rp.inc (decide (x.kind = 1)) r.d0) (Rp.inc (decide (x.code = 0)) r.d1) (Rp.inc (decide (x.code = 2)) r.d2) r.d3 r.d4 r.d5 r.d6 r.d7 r.d8 r.d9 r.d10 r.d11 (decide (x.kind = 3))) [0] [1] (by decide) rfl [var g1 [.int .i64 x.kind, .int .i64 x.tick, .int .i64 x.s, .int .i64 x.id, .int .i64 x.code, .int .i64 x.a, .int .i64 x.b] 47] rfl RoOk.nil) rfl ?_
  rintro _ _ ⟨_, ⟨rfl, rfl⟩, rfl⟩
  refine O.nil <| J.seq <| J.drawTail 10 Tryz.mixed (by kernel_rfl) <| S.m rfl rfl <| S.m rfl rfl <| S.p (Pu.nilCheck rfl) rfl <| S.p (Pu.fieldAddr (off' := 4) runUnderlying23 rfl sizeOf3 rfl rfl rfl) rfl <| S.m rfl rfl <| S.m rfl rfl ?_
  refine by_bool (decide (x.kind = 4)) (fun h8 => ?_) (fun h8 => ?_)
  ·
   have p9 := of_decide_eq_true h8
   refine S.gq (t := 54) rfl rfl h8 rfl (Pu.qt (Pu.fieldAddr (off' := 4) runUnderlying47 rfl sizeOf3 rfl rfl rfl)) rfl <| S.gq (t := 54) rfl rfl h8 rfl (Qt.ld rfl (Cel.var 1 rfl) (o := 0) (off := 4) rfl (Cut.one isAgg3 rfl)) rfl <| S.gq (t := 54) rfl rfl h8 rfl (Pu.qt (Pu.eql rfl rfl)) rfl <| S.p (Pu.pickT rfl h8 rfl) rfl <| S.endO <| O.l (Lo.callV (vs := [.pointer (some ⟨gr, 4, none⟩), .bool (decide (x.code = 1))]) (caps := []) (by exact call66) rfl rfl (rp_add4 gr (Rp.inc (decide (x.kind = 1)) r.d0) (Rp.inc (decide (x.code = 0)) r.d1) (Rp.inc (decide (x.code = 2)) r.d2) (Rp.inc (decide (x.kind = 3)) r.d3) r.d4 r.d5 r.d6 r.d7 r.d8 r.d9 r.d10 r.d11 (decide (x.code = 1))) [0] [1] (by decide) rfl [var g1 [.int .i64 x.kind, .int .i64 x.tick, .int .i64 x.s, .int .i64 x.id, .int .i64 x.code, .int .i64 x.a, .int .i64 x.b] 47] rfl RoOk.nil) rfl ?_
   rintro _ _ ⟨_, ⟨rfl, rfl⟩, rfl⟩
   refine O.nil <| J.seq <| J.drawTail 10 Tryz.mixed (by kernel_rfl) <| S.m rfl rfl <| S.m rfl rfl <| S.p (Pu.nilCheck rfl) rfl <| S.p (Pu.fieldAddr (off' := 5) runUnderlying23 rfl sizeOf3 rfl rfl rfl) rfl <| S.m rfl rfl <| S.m rfl rfl <| S.gq (t := 65) rfl rfl h8 rfl (Pu.qt (Pu.fieldAddr (off' := 4) runUnderlying47 rfl sizeOf3 rfl rfl rfl)) rfl <| S.gq (t := 65) rfl rfl h8 rfl (Qt.ld rfl (Cel.var 1 rfl) (o := 0) (off := 4) rfl (Cut.one isAgg3 rfl)) rfl <| S.gq (t := 65) rfl rfl h8 rfl (Pu.qt (Pu.neq rfl rfl)) rfl ?_
   refine S.p (Pu.pickT rfl h8 rfl) rfl <| S.endO <| O.l (Lo.callV (vs := [.pointer (some ⟨gr, 5, none⟩), .bool (decide (x.code ≠ 1))]) (caps := []) (by exact call66) rfl rfl (rp_add5 gr (Rp.inc (decide (x.kind = 1)) r.d0) (Rp.inc (decide (x.code = 0)) r.d1) (Rp.inc (decide (x.code = 2)) r.d2) (Rp.inc (decide (x.kind = 3)) r.d3) (Rp.inc (decide (x.code = 1)) r.d4) r.d5 r.d6 r.d7 r.d8 r.d9 r.d10 r.d11 (decide (x.code ≠ 1))) [0] [1] (by decide) rfl [var g1 [.int .i64 x.kind, .int .i64 x.tick, .int .i64 x.s, .int .i64 x.id, .int .i64 x.code, .int .i64 x.a, .int .i64 x.b] 47] rfl RoOk.nil) rfl ?_
   rintro _ _ ⟨_, ⟨rfl, rfl⟩, rfl⟩
   refine O.nil <| J.seq <| J.drawTail 7 Tryz.mixed (by kernel_rfl) <| S.m rfl rfl <| S.m rfl rfl <| S.p (Pu.nilCheck rfl) rfl <| S.p (Pu.fieldAddr (off' := 6) runUnderlying23 rfl sizeOf3 rfl rfl rfl) rfl <| S.p (Pu.fieldAddr (off' := 0) runUnderlying47 rfl sizeOf3 rfl rfl rfl) rfl <| S.q (Qt.ld rfl (Cel.var 1 rfl) (o := 0) (off := 0) rfl (Cut.one isAgg3 rfl)) rfl <| S.p (Pu.eql rfl rfl) rfl <| S.endO <| O.l (Lo.callV (vs := [.pointer (some ⟨gr, 6, none⟩), .bool (decide (x.kind = 12))]) (caps := []) (by exact call66) rfl rfl (rp_add6 gr (Rp.inc (decide (x.kind = 1)) r.d0) (Rp.inc (decide (x.code = 0)) r.d1) (Rp.inc (decide (x.code = 2)) r.d2) (Rp.inc (decide (x.kind = 3)) r.d3) (Rp.inc (decide (x.code = 1)) r.d4) (Rp.inc (decide (x.code ≠ 1)) r.d5) r.d6 r.d7 r.d8 r.d9 r.d10 r.d11 (decide (x.kind = 12))) [0] [1] (by decide) rfl [var g1 [.int .i64 x.kind, .int .i64 x.tick, .int .i64 x.s, .int .i64 x.id, .int .i64 x.code, .int .i64 x.a, .int .i64 x.b] 47] rfl RoOk.nil) rfl ?_
   rintro _ _ ⟨_, ⟨rfl, rfl⟩, rfl⟩
   refine O.nil <| J.seq <| J.drawTail 7 Tryz.mixed (by kernel_rfl) <| S.m rfl rfl <| S.m rfl rfl <| S.p (Pu.nilCheck rfl) rfl <| S.p (Pu.fieldAddr (off' := 7) runUnderlying23 rfl sizeOf3 rfl rfl rfl) rfl <| S.p (Pu.fieldAddr (off' := 0) runUnderlying47 rfl sizeOf3 rfl rfl rfl) rfl <| S.q (Qt.ld rfl (Cel.var 1 rfl) (o := 0) (off := 0) rfl (Cut.one isAgg3 rfl)) rfl <| S.p (Pu.eql rfl rfl) rfl <| S.endO <| O.l (Lo.callV (vs := [.pointer (some ⟨gr, 7, none⟩), .bool (decide (x.kind = 5))]) (caps := []) (by exact call66) rfl rfl (rp_add7 gr (Rp.inc (decide (x.kind = 1)) r.d0) (Rp.inc (decide (x.code = 0)) r.d1) (Rp.inc (decide (x.code = 2)) r.d2) (Rp.inc (decide (x.kind = 3)) r.d3) (Rp.inc (decide (x.code = 1)) r.d4) (Rp.inc (decide (x.code ≠ 1)) r.d5) (Rp.inc (decide (x.kind = 12)) r.d6) r.d7 r.d8 r.d9 r.d10 r.d11 (decide (x.kind = 5))) [0] [1] (by decide) rfl [var g1 [.int .i64 x.kind, .int .i64 x.tick, .int .i64 x.s, .int .i64 x.id, .int .i64 x.code, .int .i64 x.a, .int .i64 x.b] 47] rfl RoOk.nil) rfl ?_
   rintro _ _ ⟨_, ⟨rfl, rfl⟩, rfl⟩
   refine O.nil <| J.seq <| J.drawTail 7 Tryz.mixed (by kernel_rfl) <| S.m rfl rfl <| S.m rfl rfl <| S.p (Pu.nilCheck rfl) rfl <| S.p (Pu.fieldAddr (off' := 8) runUnderlying23 rfl sizeOf3 rfl rfl rfl) rfl <| S.p (Pu.fieldAddr (off' := 0) runUnderlying47 rfl sizeOf3 rfl rfl rfl) rfl <| S.q (Qt.ld rfl (Cel.var 1 rfl) (o := 0) (off := 0) rfl (Cut.one isAgg3 rfl)) rfl <| S.p (Pu.eql rfl rfl) rfl <| S.endO <| O.l (Lo.callV (vs := [.pointer (some ⟨gr, 8, none⟩), .bool (decide (x.kind = 6))]) (caps := []) (by exact call66) rfl rfl (rp_add8 gr (Rp.inc (decide (x.kind = 1)) r.d0) (Rp.inc (decide (x.code = 0)) r.d1) (Rp.inc (decide (x.code = 2)) r.d2) (Rp.inc (decide (x.kind = 3)) r.d3) (Rp.inc (decide (x.code = 1)) r.d4) (Rp.inc (decide (x.code ≠ 1)) r.d5) (Rp.inc (decide (x.kind = 12)) r.d6) (Rp.inc (decide (x.kind = 5)) r.d7) r.d8 r.d9 r.d10 r.d11 (decide (x.kind = 6))) [0] [1] (by decide) rfl [var g1 [.int .i64 x.kind, .int .i64 x.tick, .int .i64 x.s, .int .i64 x.id, .int .i64 x.code, .int .i64 x.a, .int .i64 x.b] 47] rfl RoOk.nil) rfl ?_
   rintro _ _ ⟨_, ⟨rfl, rfl⟩, rfl⟩
   refine O.nil <| J.seq <| J.drawTail 7 Tryz.mixed (by kernel_rfl) <| S.m rfl rfl <| S.m rfl rfl <| S.p (Pu.nilCheck rfl) rfl <| S.p (Pu.fieldAddr (off' := 9) runUnderlying23 rfl sizeOf3 rfl rfl rfl) rfl <| S.p (Pu.fieldAddr (off' := 0) runUnderlying47 rfl sizeOf3 rfl rfl rfl) rfl <| S.q (Qt.ld rfl (Cel.var 1 rfl) (o := 0) (off := 0) rfl (Cut.one isAgg3 rfl)) rfl <| S.p (Pu.eql rfl rfl) rfl <| S.endO <| O.l (Lo.callV (vs := [.pointer (some ⟨gr, 9, none⟩), .bool (decide (x.kind = 9))]) (caps := []) (by exact call66) rfl rfl (rp_add9 gr (Rp.inc (decide (x.kind = 1)) r.d0) (Rp.inc (decide (x.code = 0)) r.d1) (Rp.inc (decide (x.code = 2)) r.d2) (Rp.inc (decide (x.kind = 3)) r.d3) (Rp.inc (decide (x.code = 1)) r.d4) (Rp.inc (decide (x.code ≠ 1)) r.d5) (Rp.inc (decide (x.kind = 12)) r.d6) (Rp.inc (decide (x.kind = 5)) r.d7) (Rp.inc (decide (x.kind = 6)) r.d8) r.d9 r.d10 r.d11 (decide (x.kind = 9))) [0] [1] (by decide) rfl [var g1 [.int .i64 x.kind, .int .i64 x.tick, .int .i64 x.s, .int .i64 x.id, .int .i64 x.code, .int .i64 x.a, .int .i64 x.b] 47] rfl RoOk.nil) rfl ?_
   rintro _ _ ⟨_, ⟨rfl, rfl⟩, rfl⟩
   refine O.nil <| J.seq <| J.region <| O.p (Pu.fieldAddr (off' := 0) runUnderlying47 rfl sizeOf3 rfl rfl rfl) rfl <| O.q (Qt.ld rfl (Cel.var 1 rfl) (o := 0) (off := 0) rfl (Cut.one isAgg3 rfl)) rfl <| O.p (Pu.eql rfl rfl) rfl <| O.nil ?_
   refine J.cond rfl (fun h16 => ?_) (fun h16 => ?_)
   ·
    have p17 := of_decide_eq_true h16
    refine J.drawTail 10 Tryz.mixed (by kernel_rfl) <| S.m rfl rfl <| S.m rfl rfl <| S.p (Pu.nilCheck rfl) rfl <| S.p (Pu.fieldAddr (off' := 10) runUnderlying23 rfl sizeOf3 rfl rfl rfl) rfl <| S.q (Qt.ld rfl (Cel.var 0 rfl) (o := 0) (off := 10) rfl (Cut.one isAgg3 rfl)) rfl <| S.p (Pu.fieldAddr (off' := 5) runUnderlying47 rfl sizeOf3 rfl rfl rfl) rfl <| S.q (Qt.ld rfl (Cel.var 1 rfl) (o := 0) (off := 5) rfl (Cut.one isAgg3 rfl)) rfl <| S.p (Pu.max rfl rfl) rfl <| S.p (Pu.nilCheck rfl) rfl <| S.p (Pu.fieldAddr (off' := 10) runUnderlying23 rfl sizeOf3 rfl rfl rfl) rfl <| S.endO ?_
    refine O.l0 (Lo.store 0 (vs := [.int .i64 (if x.a > r.d10 then x.a else r.d10)]) [.int .i64 (Rp.inc (decide (x.kind = 1)) r.d0), .int .i64 (Rp.inc (decide (x.code = 0)) r.d1), .int .i64 (Rp.inc (decide (x.code = 2)) r.d2), .int .i64 (Rp.inc (decide (x.kind = 3)) r.d3), .int .i64 (Rp.inc (decide (x.code = 1)) r.d4), .int .i64 (Rp.inc (decide (x.code ≠ 1)) r.d5), .int .i64 (Rp.inc (decide (x.kind = 12)) r.d6), .int .i64 (Rp.inc (decide (x.kind = 5)) r.d7), .int .i64 (Rp.inc (decide (x.kind = 6)) r.d8), .int .i64 (Rp.inc (decide (x.kind = 9)) r.d9), .int .i64 (if x.a > r.d10 then x.a else r.d10), .int .i64 r.d11] rfl rfl rfl (by exact sizeOf3) rfl rfl rfl rfl rfl) ?_
    rintro _ _ rfl
    refine O.nil ?_
    exact J.done (Fin.ret (rs := []) rfl [] trivial [0] (by decide) [var gr [.int .i64 (Rp.inc (decide (x.kind = 1)) r.d0), .int .i64 (Rp.inc (decide (x.code = 0)) r.d1), .int .i64 (Rp.inc (decide (x.code = 2)) r.d2), .int .i64 (Rp.inc (decide (x.kind = 3)) r.d3), .int .i64 (Rp.inc (decide (x.code = 1)) r.d4), .int .i64 (Rp.inc (decide (x.code ≠ 1)) r.d5), .int .i64 (Rp.inc (decide (x.kind = 12)) r.d6), .int .i64 (Rp.inc (decide (x.kind = 5)) r.d7), .int .i64 (Rp.inc (decide (x.kind = 6)) r.d8), .int .i64 (Rp.inc (decide (x.kind = 9)) r.d9), .int .i64 (if x.a > r.d10 then x.a else r.d10), .int .i64 r.d11] 23] rfl ⟨rfl, congrArg (fun (z : Rep) => ([var gr (Rep.cells z) 23] : List Sp)) (show (⟨Rp.inc (decide (x.kind = 1)) r.d0, Rp.inc (decide (x.code = 0)) r.d1, Rp.inc (decide (x.code = 2)) r.d2, Rp.inc (decide (x.kind = 3)) r.d3, Rp.inc (decide (x.code = 1)) r.d4, Rp.inc (decide (x.code ≠ 1)) r.d5, Rp.inc (decide (x.kind = 12)) r.d6, Rp.inc (decide (x.kind = 5)) r.d7, Rp.inc (decide (x.kind = 6)) r.d8, Rp.inc (decide (x.kind = 9)) r.d9, if x.a > r.d10 then x.a else r.d10, r.d11⟩ : Rep) = Rp.cnt r x from (by first | (exfalso; omega) | (simp [Rp.cnt, *]; done)))⟩)
   ·
    have p18 := of_decide_eq_false h16
    refine J.skip ?_
    exact J.done (Fin.ret (rs := []) rfl [] trivial [0] (by decide) [var gr [.int .i64 (Rp.inc (decide (x.kind = 1)) r.d0), .int .i64 (Rp.inc (decide (x.code = 0)) r.d1), .int .i64 (Rp.inc (decide (x.code = 2)) r.d2), .int .i64 (Rp.inc (decide (x.kind = 3)) r.d3), .int .i64 (Rp.inc (decide (x.code = 1)) r.d4), .int .i64 (Rp.inc (decide (x.code ≠ 1)) r.d5), .int .i64 (Rp.inc (decide (x.kind = 12)) r.d6), .int .i64 (Rp.inc (decide (x.kind = 5)) r.d7), .int .i64 (Rp.inc (decide (x.kind = 6)) r.d8), .int .i64 (Rp.inc (decide (x.kind = 9)) r.d9), .int .i64 r.d10, .int .i64 r.d11] 23] rfl ⟨rfl, congrArg (fun (z : Rep) => ([var gr (Rep.cells z) 23] : List Sp)) (show (⟨Rp.inc (decide (x.kind = 1)) r.d0, Rp.inc (decide (x.code = 0)) r.d1, Rp.inc (decide (x.code = 2)) r.d2, Rp.inc (decide (x.kind = 3)) r.d3, Rp.inc (decide (x.code = 1)) r.d4, Rp.inc (decide (x.code ≠ 1)) r.d5, Rp.inc (decide (x.kind = 12)) r.d6, Rp.inc (decide (x.kind = 5)) r.d7, Rp.inc (decide (x.kind = 6)) r.d8, Rp.inc (decide (x.kind = 9)) r.d9, r.d10, r.d11⟩ : Rep) = Rp.cnt r x from (by first | (exfalso; omega) | (simp [Rp.cnt, *]; done)))⟩)
  ·
   have p19 := of_decide_eq_false h8
   refine S.gskip (t := 54) rfl rfl (no_bool (by rw [h8]; decide)) rfl rfl <| S.gskip (t := 54) rfl rfl (no_bool (by rw [h8]; decide)) rfl rfl <| S.gskip (t := 54) rfl rfl (no_bool (by rw [h8]; decide)) rfl rfl <| S.p (Pu.pickF rfl h8 rfl) rfl <| S.endO <| O.l (Lo.callV (vs := [.pointer (some ⟨gr, 4, none⟩), .bool false]) (caps := []) (by exact call66) rfl rfl (rp_add4 gr (Rp.inc (decide (x.kind = 1)) r.d0) (Rp.inc (decide (x.code = 0)) r.d1) (Rp.inc (decide (x.code = 2)) r.d2) (Rp.inc (decide (x.kind = 3)) r.d3) r.d4 r.d5 r.d6 r.d7 r.d8 r.d9 r.d10 r.d11 false) [0] [1] (by decide) rfl [var g1 [.int .i64 x.kind, .int .i64 x.tick, .int .i64 x.s, .int .i64 x.id, .int .i64 x.code, .int .i64 x.a, .int .i64 x.b] 47] rfl RoOk.nil) rfl ?_
   rintro _ _ ⟨_, ⟨rfl, rfl⟩, rfl⟩
   refine O.nil <| J.seq <| J.drawTail 10 Tryz.mixed (by kernel_rfl) <| S.m rfl rfl <| S.m rfl rfl <| S.p (Pu.nilCheck rfl) rfl <| S.p (Pu.fieldAddr (off' := 5) runUnderlying23 rfl sizeOf3 rfl rfl rfl) rfl <| S.m rfl rfl <| S.m rfl rfl <| S.gskip (t := 65) rfl rfl (no_bool (by rw [h8]; decide)) rfl rfl <| S.gskip (t := 65) rfl rfl (no_bool (by rw [h8]; decide)) rfl rfl <| S.gskip (t := 65) rfl rfl (no_bool (by rw [h8]; decide)) rfl rfl ?_
   refine S.p (Pu.pickF rfl h8 rfl) rfl <| S.endO <| O.l (Lo.callV (vs := [.pointer (some ⟨gr, 5, none⟩), .bool false]) (caps := []) (by exact call66) rfl rfl (rp_add5 gr (Rp.inc (decide (x.kind = 1)) r.d0) (Rp.inc (decide (x.code = 0)) r.d1) (Rp.inc (decide (x.code = 2)) r.d2) (Rp.inc (decide (x.kind = 3)) r.d3) (Rp.inc false r.d4) r.d5 r.d6 r.d7 r.d8 r.d9 r.d10 r.d11 false) [0] [1] (by decide) rfl [var g1 [.int .i64 x.kind, .int .i64 x.tick, .int .i64 x.s, .int .i64 x.id, .int .i64 x.code, .int .i64 x.a, .int .i64 x.b] 47] rfl RoOk.nil) rfl ?_
   rintro _ _ ⟨_, ⟨rfl, rfl⟩, rfl⟩
   refine O.nil <| J.seq <| J.drawTail 7 Tryz.mixed (by kernel_rfl) <| S.m rfl rfl <| S.m rfl rfl <| S.p (Pu.nilCheck rfl) rfl <| S.p (Pu.fieldAddr (off' := 6) runUnderlying23 rfl sizeOf3 rfl rfl rfl) rfl <| S.p (Pu.fieldAddr (off' := 0) runUnderlying47 rfl sizeOf3 rfl rfl rfl) rfl <| S.q (Qt.ld rfl (Cel.var 1 rfl) (o := 0) (off := 0) rfl (Cut.one isAgg3 rfl)) rfl <| S.p (Pu.eql rfl rfl) rfl <| S.endO <| O.l (Lo.callV (vs := [.pointer (some ⟨gr, 6, none⟩), .bool (decide (x.kind = 12))]) (caps := []) (by exact call66) rfl rfl (rp_add6 gr (Rp.inc (decide (x.kind = 1)) r.d0) (Rp.inc (decide (x.code = 0)) r.d1) (Rp.inc (decide (x.code = 2)) r.d2) (Rp.inc (decide (x.kind = 3)) r.d3) (Rp.inc false r.d4) (Rp.inc false r.d5) r.d6 r.d7 r.d8 r.d9 r.d10 r.d11 (decide (x.kind = 12))) [0] [1] (by decide) rfl [var g1 [.int .i64 x.kind, .int .i64 x.tick, .int .i64 x.s, .int .i64 x.id, .int .i64 x.code, .int .i64 x.a, .int .i64 x.b] 47] rfl RoOk.nil) rfl ?_
   rintro _ _ ⟨_, ⟨rfl, rfl⟩, rfl⟩
   refine O.nil <| J.seq <| J.drawTail 7 Tryz.mixed (by kernel_rfl) <| S.m rfl rfl <| S.m rfl rfl <| S.p (Pu.nilCheck rfl) rfl <| S.p (Pu.fieldAddr (off' := 7) runUnderlying23 rfl sizeOf3 rfl rfl rfl) rfl <| S.p (Pu.fieldAddr (off' := 0) runUnderlying47 rfl sizeOf3 rfl rfl rfl) rfl <| S.q (Qt.ld rfl (Cel.var 1 rfl) (o := 0) (off := 0) rfl (Cut.one isAgg3 rfl)) rfl <| S.p (Pu.eql rfl rfl) rfl <| S.endO <| O.l (Lo.callV (vs := [.pointer (some ⟨gr, 7, none⟩), .bool (decide (x.kind = 5))]) (caps := []) (by exact call66) rfl rfl (rp_add7 gr (Rp.inc (decide (x.kind = 1)) r.d0) (Rp.inc (decide (x.code = 0)) r.d1) (Rp.inc (decide (x.code = 2)) r.d2) (Rp.inc (decide (x.kind = 3)) r.d3) (Rp.inc false r.d4) (Rp.inc false r.d5) (Rp.inc (decide (x.kind = 12)) r.d6) r.d7 r.d8 r.d9 r.d10 r.d11 (decide (x.kind = 5))) [0] [1] (by decide) rfl [var g1 [.int .i64 x.kind, .int .i64 x.tick, .int .i64 x.s, .int .i64 x.id, .int .i64 x.code, .int .i64 x.a, .int .i64 x.b] 47] rfl RoOk.nil) rfl ?_
   rintro _ _ ⟨_, ⟨rfl, rfl⟩, rfl⟩
   refine O.nil <| J.seq <| J.drawTail 7 Tryz.mixed (by kernel_rfl) <| S.m rfl rfl <| S.m rfl rfl <| S.p (Pu.nilCheck rfl) rfl <| S.p (Pu.fieldAddr (off' := 8) runUnderlying23 rfl sizeOf3 rfl rfl rfl) rfl <| S.p (Pu.fieldAddr (off' := 0) runUnderlying47 rfl sizeOf3 rfl rfl rfl) rfl <| S.q (Qt.ld rfl (Cel.var 1 rfl) (o := 0) (off := 0) rfl (Cut.one isAgg3 rfl)) rfl <| S.p (Pu.eql rfl rfl) rfl <| S.endO <| O.l (Lo.callV (vs := [.pointer (some ⟨gr, 8, none⟩), .bool (decide (x.kind = 6))]) (caps := []) (by exact call66) rfl rfl (rp_add8 gr (Rp.inc (decide (x.kind = 1)) r.d0) (Rp.inc (decide (x.code = 0)) r.d1) (Rp.inc (decide (x.code = 2)) r.d2) (Rp.inc (decide (x.kind = 3)) r.d3) (Rp.inc false r.d4) (Rp.inc false r.d5) (Rp.inc (decide (x.kind = 12)) r.d6) (Rp.inc (decide (x.kind = 5)) r.d7) r.d8 r.d9 r.d10 r.d11 (decide (x.kind = 6))) [0] [1] (by decide) rfl [var g1 [.int .i64 x.kind, .int .i64 x.tick, .int .i64 x.s, .int .i64 x.id, .int .i64 x.code, .int .i64 x.a, .int .i64 x.b] 47] rfl RoOk.nil) rfl ?_
   rintro _ _ ⟨_, ⟨rfl, rfl⟩, rfl⟩
   refine O.nil <| J.seq <| J.drawTail 7 Tryz.mixed (by kernel_rfl) <| S.m rfl rfl <| S.m rfl rfl <| S.p (Pu.nilCheck rfl) rfl <| S.p (Pu.fieldAddr (off' := 9) runUnderlying23 rfl sizeOf3 rfl rfl rfl) rfl <| S.p (Pu.fieldAddr (off' := 0) runUnderlying47 rfl sizeOf3 rfl rfl rfl) rfl <| S.q (Qt.ld rfl (Cel.var 1 rfl) (o := 0) (off := 0) rfl (Cut.one isAgg3 rfl)) rfl <| S.p (Pu.eql rfl rfl) rfl <| S.endO <| O.l (Lo.callV (vs := [.pointer (some ⟨gr, 9, none⟩), .bool (decide (x.kind = 9))]) (caps := []) (by exact call66) rfl rfl (rp_add9 gr (Rp.inc (decide (x.kind = 1)) r.d0) (Rp.inc (decide (x.code = 0)) r.d1) (Rp.inc (decide (x.code = 2)) r.d2) (Rp.inc (decide (x.kind = 3)) r.d3) (Rp.inc false r.d4) (Rp.inc false r.d5) (Rp.inc (decide (x.kind = 12)) r.d6) (Rp.inc (decide (x.kind = 5)) r.d7) (Rp.inc (decide (x.kind = 6)) r.d8) r.d9 r.d10 r.d11 (decide (x.kind = 9))) [0] [1] (by decide) rfl [var g1 [.int .i64 x.kind, .int .i64 x.tick, .int .i64 x.s, .int .i64 x.id, .int .i64 x.code, .int .i64 x.a, .int .i64 x.b] 47] rfl RoOk.nil) rfl ?_
   rintro _ _ ⟨_, ⟨rfl, rfl⟩, rfl⟩
   refine O.nil <| J.seq <| J.region <| O.p (Pu.fieldAddr (off' := 0) runUnderlying47 rfl sizeOf3 rfl rfl rfl) rfl <| O.q (Qt.ld rfl (Cel.var 1 rfl) (o := 0) (off := 0) rfl (Cut.one isAgg3 rfl)) rfl <| O.p (Pu.eql rfl rfl) rfl <| O.nil ?_
   refine J.cond rfl (fun h26 => ?_) (fun h26 => ?_)
   ·
    have p27 := of_decide_eq_true h26
    refine J.drawTail 10 Tryz.mixed (by kernel_rfl) <| S.m rfl rfl <| S.m rfl rfl <| S.p (Pu.nilCheck rfl) rfl <| S.p (Pu.fieldAddr (off' := 10) runUnderlying23 rfl sizeOf3 rfl rfl rfl) rfl <| S.q (Qt.ld rfl (Cel.var 0 rfl) (o := 0) (off := 10) rfl (Cut.one isAgg3 rfl)) rfl <| S.p (Pu.fieldAddr (off' := 5) runUnderlying47 rfl sizeOf3 rfl rfl rfl) rfl <| S.q (Qt.ld rfl (Cel.var 1 rfl) (o := 0) (off := 5) rfl (Cut.one isAgg3 rfl)) rfl <| S.p (Pu.max rfl rfl) rfl <| S.p (Pu.nilCheck rfl) rfl <| S.p (Pu.fieldAddr (off' := 10) runUnderlying23 rfl sizeOf3 rfl rfl rfl) rfl <| S.endO ?_
    refine O.l0 (Lo.store 0 (vs := [.int .i64 (if x.a > r.d10 then x.a else r.d10)]) [.int .i64 (Rp.inc (decide (x.kind = 1)) r.d0), .int .i64 (Rp.inc (decide (x.code = 0)) r.d1), .int .i64 (Rp.inc (decide (x.code = 2)) r.d2), .int .i64 (Rp.inc (decide (x.kind = 3)) r.d3), .int .i64 (Rp.inc false r.d4), .int .i64 (Rp.inc false r.d5), .int .i64 (Rp.inc (decide (x.kind = 12)) r.d6), .int .i64 (Rp.inc (decide (x.kind = 5)) r.d7), .int .i64 (Rp.inc (decide (x.kind = 6)) r.d8), .int .i64 (Rp.inc (decide (x.kind = 9)) r.d9), .int .i64 (if x.a > r.d10 then x.a else r.d10), .int .i64 r.d11] rfl rfl rfl (by exact sizeOf3) rfl rfl rfl rfl rfl) ?_
    rintro _ _ rfl
    refine O.nil ?_
    exact J.done (Fin.ret (rs := []) rfl [] trivial [0] (by decide) [var gr [.int .i64 (Rp.inc (decide (x.kind = 1)) r.d0), .int .i64 (Rp.inc (decide (x.code = 0)) r.d1), .int .i64 (Rp.inc (decide (x.code = 2)) r.d2), .int .i64 (Rp.inc (decide (x.kind = 3)) r.d3), .int .i64 (Rp.inc false r.d4), .int .i64 (Rp.inc false r.d5), .int .i64 (Rp.inc (decide (x.kind = 12)) r.d6), .int .i64 (Rp.inc (decide (x.kind = 5)) r.d7), .int .i64 (Rp.inc (decide (x.kind = 6)) r.d8), .int .i64 (Rp.inc (decide (x.kind = 9)) r.d9), .int .i64 (if x.a > r.d10 then x.a else r.d10), .int .i64 r.d11] 23] rfl ⟨rfl, congrArg (fun (z : Rep) => ([var gr (Rep.cells z) 23] : List Sp)) (show (⟨Rp.inc (decide (x.kind = 1)) r.d0, Rp.inc (decide (x.code = 0)) r.d1, Rp.inc (decide (x.code = 2)) r.d2, Rp.inc (decide (x.kind = 3)) r.d3, Rp.inc false r.d4, Rp.inc false r.d5, Rp.inc (decide (x.kind = 12)) r.d6, Rp.inc (decide (x.kind = 5)) r.d7, Rp.inc (decide (x.kind = 6)) r.d8, Rp.inc (decide (x.kind = 9)) r.d9, if x.a > r.d10 then x.a else r.d10, r.d11⟩ : Rep) = Rp.cnt r x from (by first | (exfalso; omega) | (simp [Rp.cnt, *]; done)))⟩)
   ·
    have p28 := of_decide_eq_false h26
    refine J.skip ?_
    exact J.done (Fin.ret (rs := []) rfl [] trivial [0] (by decide) [var gr [.int .i64 (Rp.inc (decide (x.kind = 1)) r.d0), .int .i64 (Rp.inc (decide (x.code = 0)) r.d1), .int .i64 (Rp.inc (decide (x.code = 2)) r.d2), .int .i64 (Rp.inc (decide (x.kind = 3)) r.d3), .int .i64 (Rp.inc false r.d4), .int .i64 (Rp.inc false r.d5), .int .i64 (Rp.inc (decide (x.kind = 12)) r.d6), .int .i64 (Rp.inc (decide (x.kind = 5)) r.d7), .int .i64 (Rp.inc (decide (x.kind = 6)) r.d8), .int .i64 (Rp.inc (decide (x.kind = 9)) r.d9), .int .i64 r.d10, .int .i64 r.d11] 23] rfl ⟨rfl, congrArg (fun (z : Rep) => ([var gr (Rep.cells z) 23] : List Sp)) (show (⟨Rp.inc (decide (x.kind = 1)) r.d0, Rp.inc (decide (x.code = 0)) r.d1, Rp.inc (decide (x.code = 2)) r.d2, Rp.inc (decide (x.kind = 3)) r.d3, Rp.inc false r.d4, Rp.inc false r.d5, Rp.inc (decide (x.kind = 12)) r.d6, Rp.inc (decide (x.kind = 5)) r.d7, Rp.inc (decide (x.kind = 6)) r.d8, Rp.inc (decide (x.kind = 9)) r.d9, r.d10, r.d11⟩ : Rep) = Rp.cnt r x from (by first | (exfalso; omega) | (simp [Rp.cnt, *]; done)))⟩)
 ·
  have p29 := of_decide_eq_false h3
  refine S.gskip (t := 24) rfl rfl (no_bool (by rw [h3]; decide)) rfl rfl <| S.gskip (t := 24) rfl rfl (no_bool (by rw [h3]; decide)) rfl rfl <| S.gskip (t := 24) rfl rfl (no_bool (by rw [h3]; decide)) rfl rfl <| S.p (Pu.pickF rfl h3 rfl) rfl <| S.endO <| O.l (Lo.callV (vs := [.pointer (some ⟨gr, 1, none⟩), .bool false]) (caps := []) (by exact call66) rfl rfl (rp_add1 gr (Rp.inc (decide (x.kind = 1)) r.d0) r.d1 r.d2 r.d3 r.d4 r.d5 r.d6 r.d7 r.d8 r.d9 r.d10 r.d11 false) [0] [1] (by decide) rfl [var g1 [.int .i64 x.kind, .int .i64 x.tick, .int .i64 x.s, .int .i64 x.id, .int .i64 x.code, .int .i64 x.a, .int .i64 x.b] 47] rfl RoOk.nil) rfl ?_
  rintro _ _ ⟨_, ⟨rfl, rfl⟩, rfl⟩
  refine O.nil <| J.seq <| J.drawTail 10 Tryz.mixed (by kernel_rfl) <| S.m rfl rfl <| S.m rfl rfl <| S.p (Pu.nilCheck rfl) rfl <| S.p (Pu.fieldAddr (off' := 2) runUnderlying23 rfl sizeOf3 rfl rfl rfl) rfl <| S.m rfl rfl <| S.m rfl rfl <| S.gskip (t := 35) rfl rfl (no_bool (by rw [h3]; decide)) rfl rfl <| S.gskip (t := 35) rfl rfl (no_bool (by rw [h3]; decide)) rfl rfl <| S.gskip (t := 35) rfl rfl (no_bool (by rw [h3]; decide)) rfl rfl ?_
  refine S.p (Pu.pickF rfl h3 rfl) rfl <| S.endO <| O.l (Lo.callV (vs := [.pointer (some ⟨gr, 2, none⟩), .bool false]) (caps := []) (by exact call66) rfl rfl (rp_add2 gr (Rp.inc (decide (x.kind = 1)) r.d0) (Rp.inc false r.d1) r.d2 r.d3 r.d4 r.d5 r.d6 r.d7 r.d8 r.d9 r.d10 r.d11 false) [0] [1] (by decide) rfl [var g1 [.int .i64 x.kind, .int .i64 x.tick, .int .i64 x.s, .int .i64 x.id, .int .i64 x.code, .int .i64 x.a, .int .i64 x.b] 47] rfl RoOk.nil) rfl ?_
  rintro _ _ ⟨_, ⟨rfl, rfl⟩, rfl⟩
  refine O.nil <| J.seq <| J.drawTail 7 Tryz.mixed (by kernel_rfl) <| S.m rfl rfl <| S.m rfl rfl <| S.p (Pu.nilCheck rfl) rfl <| S.p (Pu.fieldAddr (off' := 3) runUnderlying23 rfl sizeOf3 rfl rfl rfl) rfl <| S.p (Pu.fieldAddr (off' := 0) runUnderlying47 rfl sizeOf3 rfl rfl rfl) rfl <| S.q (Qt.ld rfl (Cel.var 1 rfl) (o := 0) (off := 0) rfl (Cut.one isAgg3 rfl)) rfl <| S.p (Pu.eql rfl rfl) rfl <| S.endO <| O.l (Lo.callV (vs := [.pointer (some ⟨gr, 3, none⟩), .bool (decide (x.kind = 3))]) (caps := []) (by exact call66) rfl rfl (rp_add3 gr (Rp.inc (decide (x.kind = 1)) r.d0) (Rp.inc false r.d1) (Rp.inc false r.d2) r.d3 r.d4 r.d5 r.d6 r.d7 r.d8 r.d9 r.d10 r.d11 (decide (x.kind = 3))) [0] [1] (by decide) rfl [var g1 [.int .i64 x.kind, .int .i64 x.tick, .int .i64 x.s, .int .i64 x.id, .int .i64 x.code, .int .i64 x.a, .int .i64 x.b] 47] rfl RoOk.nil) rfl ?_
  rintro _ _ ⟨_, ⟨rfl, rfl⟩, rfl⟩
  refine O.nil <| J.seq <| J.drawTail 10 Tryz.mixed (by kernel_rfl) <| S.m rfl rfl <| S.m rfl rfl <| S.p (Pu.nilCheck rfl) rfl <| S.p (Pu.fieldAddr (off' := 4) runUnderlying23 rfl sizeOf3 rfl rfl rfl) rfl <| S.m rfl rfl <| S.m rfl rfl ?_
  refine by_bool (decide (x.kind = 4)) (fun h33 => ?_) (fun h33 => ?_)
  ·
   have p34 := of_decide_eq_true h33
   refine S.gq (t := 54) rfl rfl h33 rfl (Pu.qt (Pu.fieldAddr (off' := 4) runUnderlying47 rfl sizeOf3 rfl rfl rfl)) rfl <| S.gq (t := 54) rfl rfl h33 rfl (Qt.ld rfl (Cel.var 1 rfl) (o := 0) (off := 4) rfl (Cut.one isAgg3 rfl)) rfl <| S.gq (t := 54) rfl rfl h33 rfl (Pu.qt (Pu.eql rfl rfl)) rfl <| S.p (Pu.pickT rfl h33 rfl) rfl <| S.endO <| O.l (Lo.callV (vs := [.pointer (some ⟨gr, 4, none⟩), .bool (decide (x.code = 1))]) (caps := []) (by exact call66) rfl rfl (rp_add4 gr (Rp.inc (decide (x.kind = 1)) r.d0) (Rp.inc false r.d1) (Rp.inc false r.d2) (Rp.inc (decide (x.kind = 3)) r.d3) r.d4 r.d5 r.d6 r.d7 r.d8 r.d9 r.d10 r.d11 (decide (x.code = 1))) [0] [1] (by decide) rfl [var g1 [.int .i64 x.kind, .int .i64 x.tick, .int .i64 x.s, .int .i64 x.id, .int .i64 x.code, .int .i64 x.a, .int .i64 x.b] 47] rfl RoOk.nil) rfl ?_
   rintro _ _ ⟨_, ⟨rfl, rfl⟩, rfl⟩
   refine O.nil <| J.seq <| J.drawTail 10 Tryz.mixed (by kernel_rfl) <| S.m rfl rfl <| S.m rfl rfl <| S.p (Pu.nilCheck rfl) rfl <| S.p (Pu.fieldAddr (off' := 5) runUnderlying23 rfl sizeOf3 rfl rfl rfl) rfl <| S.m rfl rfl <| S.m rfl rfl <| S.gq (t := 65) rfl rfl h33 rfl (Pu.qt (Pu.fieldAddr (off' := 4) runUnderlying47 rfl sizeOf3 rfl rfl rfl)) rfl <| S.gq (t := 65) rfl rfl h33 rfl (Qt.ld rfl (Cel.var 1 rfl) (o := 0) (off := 4) rfl (Cut.one isAgg3 rfl)) rfl <| S.gq (t := 65) rfl rfl h33 rfl (Pu.qt (Pu.neq rfl rfl)) rfl ?_
   refine S.p (Pu.pickT rfl h33 rfl) rfl <| S.endO <| O.l (Lo.callV (vs := [.pointer (some ⟨gr, 5, none⟩), .bool (decide (x.code ≠ 1))]) (caps := []) (by exact call66) rfl rfl (rp_add5 gr (Rp.inc (decide (x.kind = 1)) r.d0) (Rp.inc false r.d1) (Rp.inc false r.d2) (Rp.inc (decide (x.kind = 3)) r.d3) (Rp.inc (decide (x.code = 1)) r.d4) r.d5 r.d6 r.d7 r.d8 r.d9 r.d10 r.d11 (decide (x.code ≠ 1))) [0] [1] (by decide) rfl [var g1 [.int .i64 x.kind, .int .i64 x.tick, .int .i64 x.s, .int .i64 x.id, .int .i64 x.code, .int .i64 x.a, .int .i64 x.b] 47] rfl RoOk.nil) rfl ?_
   rintro _ _ ⟨_, ⟨rfl, rfl⟩, rfl⟩
   refine O.nil <| J.seq <| J.drawTail 7 Tryz.mixed (by kernel_rfl) <| S.m rfl rfl <| S.m rfl rfl <| S.p (Pu.nilCheck rfl) rfl <| S.p (Pu.fieldAddr (off' := 6) runUnderlying23 rfl sizeOf3 rfl rfl rfl) rfl <| S.p (Pu.fieldAddr (off' := 0) runUnderlying47 rfl sizeOf3 rfl rfl rfl) rfl <| S.q (Qt.ld rfl (Cel.var 1 rfl) (o := 0) (off := 0) rfl (Cut.one isAgg3 rfl)) rfl <| S.p (Pu.eql rfl rfl) rfl <| S.endO <| O.l (Lo.callV (vs := [.pointer (some ⟨gr, 6, none⟩), .bool (decide (x.kind = 12))]) (caps := []) (by exact call66) rfl rfl (rp_add6 gr (Rp.inc (decide (x.kind = 1)) r.d0) (Rp.inc false r.d1) (Rp.inc false r.d2) (Rp.inc (decide (x.kind = 3)) r.d3) (Rp.inc (decide (x.code = 1)) r.d4) (Rp.inc (decide (x.code ≠ 1)) r.d5) r.d6 r.d7 r.d8 r.d9 r.d10 r.d11 (decide (x.kind = 12))) [0] [1] (by decide) rfl [var g1 [.int .i64 x.kind, .int .i64 x.tick, .int .i64 x.s, .int .i64 x.id, .int .i64 x.code, .int .i64 x.a, .int .i64 x.b] 47] rfl RoOk.nil) rfl ?_
   rintro _ _ ⟨_, ⟨rfl, rfl⟩, rfl⟩
   refine O.nil <| J.seq <| J.drawTail 7 Tryz.mixed (by kernel_rfl) <| S.m rfl rfl <| S.m rfl rfl <| S.p (Pu.nilCheck rfl) rfl <| S.p (Pu.fieldAddr (off' := 7) runUnderlying23 rfl sizeOf3 rfl rfl rfl) rfl <| S.p (Pu.fieldAddr (off' := 0) runUnderlying47 rfl sizeOf3 rfl rfl rfl) rfl <| S.q (Qt.ld rfl (Cel.var 1 rfl) (o := 0) (off := 0) rfl (Cut.one isAgg3 rfl)) rfl <| S.p (Pu.eql rfl rfl) rfl <| S.endO <| O.l (Lo.callV (vs := [.pointer (some ⟨gr, 7, none⟩), .bool (decide (x.kind = 5))]) (caps := []) (by exact call66) rfl rfl (rp_add7 gr (Rp.inc (decide (x.kind = 1)) r.d0) (Rp.inc false r.d1) (Rp.inc false r.d2) (Rp.inc (decide (x.kind = 3)) r.d3) (Rp.inc (decide (x.code = 1)) r.d4) (Rp.inc (decide (x.code ≠ 1)) r.d5) (Rp.inc (decide (x.kind = 12)) r.d6) r.d7 r.d8 r.d9 r.d10 r.d11 (decide (x.kind = 5))) [0] [1] (by decide) rfl [var g1 [.int .i64 x.kind, .int .i64 x.tick, .int .i64 x.s, .int .i64 x.id, .int .i64 x.code, .int .i64 x.a, .int .i64 x.b] 47] rfl RoOk.nil) rfl ?_
   rintro _ _ ⟨_, ⟨rfl, rfl⟩, rfl⟩
   refine O.nil <| J.seq <| J.drawTail 7 Tryz.mixed (by kernel_rfl) <| S.m rfl rfl <| S.m rfl rfl <| S.p (Pu.nilCheck rfl) rfl <| S.p (Pu.fieldAddr (off' := 8) runUnderlying23 rfl sizeOf3 rfl rfl rfl) rfl <| S.p (Pu.fieldAddr (off' := 0) runUnderlying47 rfl sizeOf3 rfl rfl rfl) rfl <| S.q (Qt.ld rfl (Cel.var 1 rfl) (o := 0) (off := 0) rfl (Cut.one isAgg3 rfl)) rfl <| S.p (Pu.eql rfl rfl) rfl <| S.endO <| O.l (Lo.callV (vs := [.pointer (some ⟨gr, 8, none⟩), .bool (decide (x.kind = 6))]) (caps := []) (by exact call66) rfl rfl (rp_add8 gr (Rp.inc (decide (x.kind = 1)) r.d0) (Rp.inc false r.d1) (Rp.inc false r.d2) (Rp.inc (decide (x.kind = 3)) r.d3) (Rp.inc (decide (x.code = 1)) r.d4) (Rp.inc (decide (x.code ≠ 1)) r.d5) (Rp.inc (decide (x.kind = 12)) r.d6) (Rp.inc (decide (x.kind = 5)) r.d7) r.d8 r.d9 r.d10 r.d11 (decide (x.kind = 6))) [0] [1] (by decide) rfl [var g1 [.int .i64 x.kind, .int .i64 x.tick, .int .i64 x.s, .int .i64 x.id, .int .i64 x.code, .int .i64 x.a, .int .i64 x.b] 47] rfl RoOk.nil) rfl ?_
   rintro _ _ ⟨_, ⟨rfl, rfl⟩, rfl⟩
   refine O.nil <| J.seq <| J.drawTail 7 Tryz.mixed (by kernel_rfl) <| S.m rfl rfl <| S.m rfl rfl <| S.p (Pu.nilCheck rfl) rfl <| S.p (Pu.fieldAddr (off' := 9) runUnderlying23 rfl sizeOf3 rfl rfl rfl) rfl <| S.p (Pu.fieldAddr (off' := 0) runUnderlying47 rfl sizeOf3 rfl rfl rfl) rfl <| S.q (Qt.ld rfl (Cel.var 1 rfl) (o := 0) (off := 0) rfl (Cut.one isAgg3 rfl)) rfl <| S.p (Pu.eql rfl rfl) rfl <| S.endO <| O.l (Lo.callV (vs := [.pointer (some ⟨gr, 9, none⟩), .bool (decide (x.kind = 9))]) (caps := []) (by exact call66) rfl rfl (rp_add9 gr (Rp.inc (decide (x.kind = 1)) r.d0) (Rp.inc false r.d1) (Rp.inc false r.d2) (Rp.inc (decide (x.kind = 3)) r.d3) (Rp.inc (decide (x.code = 1)) r.d4) (Rp.inc (decide (x.code ≠ 1)) r.d5) (Rp.inc (decide (x.kind = 12)) r.d6) (Rp.inc (decide (x.kind = 5)) r.d7) (Rp.inc (decide (x.kind = 6)) r.d8) r.d9 r.d10 r.d11 (decide (x.kind = 9))) [0] [1] (by decide) rfl [var g1 [.int .i64 x.kind, .int .i64 x.tick, .int .i64 x.s, .int .i64 x.id, .int .i64 x.code, .int .i64 x.a, .int .i64 x.b] 47] rfl RoOk.nil) rfl ?_
   rintro _ _ ⟨_, ⟨rfl, rfl⟩, rfl⟩
   refine O.nil <| J.seq <| J.region <| O.p (Pu.fieldAddr (off' := 0) runUnderlying47 rfl sizeOf3 rfl rfl rfl) rfl <| O.q (Qt.ld rfl (Cel.var 1 rfl) (o := 0) (off := 0) rfl (Cut.one isAgg3 rfl)) rfl <| O.p (Pu.eql rfl rfl) rfl <| O.nil ?_
   refine J.cond rfl (fun h41 => ?_) (fun h41 => ?_)
   ·
    have p42 := of_decide_eq_true h41
    refine J.drawTail 10 Tryz.mixed (by kernel_rfl) <| S.m rfl rfl <| S.m rfl rfl <| S.p (Pu.nilCheck rfl) rfl <| S.p (Pu.fieldAddr (off' := 10) runUnderlying23 rfl sizeOf3 rfl rfl rfl) rfl <| S.q (Qt.ld rfl (Cel.var 0 rfl) (o := 0) (off := 10) rfl (Cut.one isAgg3 rfl)) rfl <| S.p (Pu.fieldAddr (off' := 5) runUnderlying47 rfl sizeOf3 rfl rfl rfl) rfl <| S.q (Qt.ld rfl (Cel.var 1 rfl) (o := 0) (off := 5) rfl (Cut.one isAgg3 rfl)) rfl <| S.p (Pu.max rfl rfl) rfl <| S.p (Pu.nilCheck rfl) rfl <| S.p (Pu.fieldAddr (off' := 10) runUnderlying23 rfl sizeOf3 rfl rfl rfl) rfl <| S.endO ?_
    refine O.l0 (Lo.store 0 (vs := [.int .i64 (if x.a > r.d10 then x.a else r.d10)]) [.int .i64 (Rp.inc (decide (x.kind = 1)) r.d0), .int .i64 (Rp.inc false r.d1), .int .i64 (Rp.inc false r.d2), .int .i64 (Rp.inc (decide (x.kind = 3)) r.d3), .int .i64 (Rp.inc (decide (x.code = 1)) r.d4), .int .i64 (Rp.inc (decide (x.code ≠ 1)) r.d5), .int .i64 (Rp.inc (decide (x.kind = 12)) r.d6), .int .i64 (Rp.inc (decide (x.kind = 5)) r.d7), .int .i64 (Rp.inc (decide (x.kind = 6)) r.d8), .int .i64 (Rp.inc (decide (x.kind = 9)) r.d9), .int .i64 (if x.a > r.d10 then x.a else r.d10), .int .i64 r.d11] rfl rfl rfl (by exact sizeOf3) rfl rfl rfl rfl rfl) ?_
    rintro _ _ rfl
    refine O.nil ?_
    exact J.done (Fin.ret (rs := []) rfl [] trivial [0] (by decide) [var gr [.int .i64 (Rp.inc (decide (x.kind = 1)) r.d0), .int .i64 (Rp.inc false r.d1), .int .i64 (Rp.inc false r.d2), .int .i64 (Rp.inc (decide (x.kind = 3)) r.d3), .int .i64 (Rp.inc (decide (x.code = 1)) r.d4), .int .i64 (Rp.inc (decide (x.code ≠ 1)) r.d5), .int .i64 (Rp.inc (decide (x.kind = 12)) r.d6), .int .i64 (Rp.inc (decide (x.kind = 5)) r.d7), .int .i64 (Rp.inc (decide (x.kind = 6)) r.d8), .int .i64 (Rp.inc (decide (x.kind = 9)) r.d9), .int .i64 (if x.a > r.d10 then x.a else r.d10), .int .i64 r.d11] 23] rfl ⟨rfl, congrArg (fun (z : Rep) => ([var gr (Rep.cells z) 23] : List Sp)) (show (⟨Rp.inc (decide (x.kind = 1)) r.d0, Rp.inc false r.d1, Rp.inc false r.d2, Rp.inc (decide (x.kind = 3)) r.d3, Rp.inc (decide (x.code = 1)) r.d4, Rp.inc (decide (x.code ≠ 1)) r.d5, Rp.inc (decide (x.kind = 12)) r.d6, Rp.inc (decide (x.kind = 5)) r.d7, Rp.inc (decide (x.kind = 6)) r.d8, Rp.inc (decide (x.kind = 9)) r.d9, if x.a > r.d10 then x.a else r.d10, r.d11⟩ : Rep) = Rp.cnt r x from (by first | (exfalso; omega) | (simp [Rp.cnt, *]; done)))⟩)
   ·
    have p43 := of_decide_eq_false h41
    refine J.skip ?_
    exact J.done (Fin.ret (rs := []) rfl [] trivial [0] (by decide) [var gr [.int .i64 (Rp.inc (decide (x.kind = 1)) r.d0), .int .i64 (Rp.inc false r.d1), .int .i64 (Rp.inc false r.d2), .int .i64 (Rp.inc (decide (x.kind = 3)) r.d3), .int .i64 (Rp.inc (decide (x.code = 1)) r.d4), .int .i64 (Rp.inc (decide (x.code ≠ 1)) r.d5), .int .i64 (Rp.inc (decide (x.kind = 12)) r.d6), .int .i64 (Rp.inc (decide (x.kind = 5)) r.d7), .int .i64 (Rp.inc (decide (x.kind = 6)) r.d8), .int .i64 (Rp.inc (decide (x.kind = 9)) r.d9), .int .i64 r.d10, .int .i64 r.d11] 23] rfl ⟨rfl, congrArg (fun (z : Rep) => ([var gr (Rep.cells z) 23] : List Sp)) (show (⟨Rp.inc (decide (x.kind = 1)) r.d0, Rp.inc false r.d1, Rp.inc false r.d2, Rp.inc (decide (x.kind = 3)) r.d3, Rp.inc (decide (x.code = 1)) r.d4, Rp.inc (decide (x.code ≠ 1)) r.d5, Rp.inc (decide (x.kind = 12)) r.d6, Rp.inc (decide (x.kind = 5)) r.d7, Rp.inc (decide (x.kind = 6)) r.d8, Rp.inc (decide (x.kind = 9)) r.d9, r.d10, r.d11⟩ : Rep) = Rp.cnt r x from (by first | (exfalso; omega) | (simp [Rp.cnt, *]; done)))⟩)
  ·
   have p44 := of_decide_eq_false h33
   refine S.gskip (t := 54) rfl rfl (no_bool (by rw [h33]; decide)) rfl rfl <| S.gskip (t := 54) rfl rfl (no_bool (by rw [h33]; decide)) rfl rfl <| S.gskip (t := 54) rfl rfl (no_bool (by rw [h33]; decide)) rfl rfl <| S.p (Pu.pickF rfl h33 rfl) rfl <| S.endO <| O.l (Lo.callV (vs := [.pointer (some ⟨gr, 4, none⟩), .bool false]) (caps := []) (by exact call66) rfl rfl (rp_add4 gr (Rp.inc (decide (x.kind = 1)) r.d0) (Rp.inc false r.d1) (Rp.inc false r.d2) (Rp.inc (decide (x.kind = 3)) r.d3) r.d4 r.d5 r.d6 r.d7 r.d8 r.d9 r.d10 r.d11 false) [0] [1] (by decide) rfl [var g1 [.int .i64 x.kind, .int .i64 x.tick, .int .i64 x.s, .int .i64 x.id, .int .i64 x.code, .int .i64 x.a, .int .i64 x.b] 47] rfl RoOk.nil) rfl ?_
   rintro _ _ ⟨_, ⟨rfl, rfl⟩, rfl⟩
   refine O.nil <| J.seq <| J.drawTail 10 Tryz.mixed (by kernel_rfl) <| S.m rfl rfl <| S.m rfl rfl <| S.p (Pu.nilCheck rfl) rfl <| S.p (Pu.fieldAddr (off' := 5) runUnderlying23 rfl sizeOf3 rfl rfl rfl) rfl <| S.m rfl rfl <| S.m rfl rfl <| S.gskip (t := 65) rfl rfl (no_bool (by rw [h33]; decide)) rfl rfl <| S.gskip (t := 65) rfl rfl (no_bool (by rw [h33]; decide)) rfl rfl <| S.gskip (t := 65) rfl rfl (no_bool (by rw [h33]; decide)) rfl rfl ?_
   refine S.p (Pu.pickF rfl h33 rfl) rfl <| S.endO <| O.l (Lo.callV (vs := [.pointer (some ⟨gr, 5, none⟩), .bool false]) (caps := []) (by exact call66) rfl rfl (rp_add5 gr (Rp.inc (decide (x.kind = 1)) r.d0) (Rp.inc false r.d1) (Rp.inc false r.d2) (Rp.inc (decide (x.kind = 3)) r.d3) (Rp.inc false r.d4) r.d5 r.d6 r.d7 r.d8 r.d9 r.d10 r.d11 false) [0] [1] (by decide) rfl [var g1 [.int .i64 x.kind, .int .i64 x.tick, .int .i64 x.s, .int .i64 x.id, .int .i64 x.code, .int .i64 x.a, .int .i64 x.b] 47] rfl RoOk.nil) rfl ?_
   rintro _ _ ⟨_, ⟨rfl, rfl⟩, rfl⟩
   refine O.nil <| J.seq <| J.drawTail 7 Tryz.mixed (by kernel_rfl) <| S.m rfl rfl <| S.m rfl rfl <| S.p (Pu.nilCheck rfl) rfl <| S.p (Pu.fieldAddr (off' := 6) runUnderlying23 rfl sizeOf3 rfl rfl rfl) rfl <| S.p (Pu.fieldAddr (off' := 0) runUnderlying47 rfl sizeOf3 rfl rfl rfl) rfl <| S.q (Qt.ld rfl (Cel.var 1 rfl) (o := 0) (off := 0) rfl (Cut.one isAgg3 rfl)) rfl <| S.p (Pu.eql rfl rfl) rfl <| S.endO <| O.l (Lo.callV (vs := [.pointer (some ⟨gr, 6, none⟩), .bool (decide (x.kind = 12))]) (caps := []) (by exact call66) rfl rfl (rp_add6 gr (Rp.inc (decide (x.kind = 1)) r.d0) (Rp.inc false r.d1) (Rp.inc false r.d2) (Rp.inc (decide (x.kind = 3)) r.d3) (Rp.inc false r.d4) (Rp.inc false r.d5) r.d6 r.d7 r.d8 r.d9 r.d10 r.d11 (decide (x.kind = 12))) [0] [1] (by decide) rfl [var g1 [.int .i64 x.kind, .int .i64 x.tick, .int .i64 x.s, .int .i64 x.id, .int .i64 x.code, .int .i64 x.a, .int .i64 x.b] 47] rfl RoOk.nil) rfl ?_
   rintro _ _ ⟨_, ⟨rfl, rfl⟩, rfl⟩
   refine O.nil <| J.seq <| J.drawTail 7 Tryz.mixed (by kernel_rfl) <| S.m rfl rfl <| S.m rfl rfl <| S.p (Pu.nilCheck rfl) rfl <| S.p (Pu.fieldAddr (off' := 7) runUnderlying23 rfl sizeOf3 rfl rfl rfl) rfl <| S.p (Pu.fieldAddr (off' := 0) runUnderlying47 rfl sizeOf3 rfl rfl rfl) rfl <| S.q (Qt.ld rfl (Cel.var 1 rfl) (o := 0) (off := 0) rfl (Cut.one isAgg3 rfl)) rfl <| S.p (Pu.eql rfl rfl) rfl <| S.endO <| O.l (Lo.callV (vs := [.pointer (some ⟨gr, 7, none⟩), .bool (decide (x.kind = 5))]) (caps := []) (by exact call66) rfl rfl (rp_add7 gr (Rp.inc (decide (x.kind = 1)) r.d0) (Rp.inc false r.d1) (Rp.inc false r.d2) (Rp.inc (decide (x.kind = 3)) r.d3) (Rp.inc false r.d4) (Rp.inc false r.d5) (Rp.inc (decide (x.kind = 12)) r.d6) r.d7 r.d8 r.d9 r.d10 r.d11 (decide (x.kind = 5))) [0] [1] (by decide) rfl [var g1 [.int .i64 x.kind, .int .i64 x.tick, .int .i64 x.s, .int .i64 x.id, .int .i64 x.code, .int .i64 x.a, .int .i64 x.b] 47] rfl RoOk.nil) rfl ?_
   rintro _ _ ⟨_, ⟨rfl, rfl⟩, rfl⟩
   refine O.nil <| J.seq <| J.drawTail 7 Tryz.mixed (by kernel_rfl) <| S.m rfl rfl <| S.m rfl rfl <| S.p (Pu.nilCheck rfl) rfl <| S.p (Pu.fieldAddr (off' := 8) runUnderlying23 rfl sizeOf3 rfl rfl rfl) rfl <| S.p (Pu.fieldAddr (off' := 0) runUnderlying47 rfl sizeOf3 rfl rfl rfl) rfl <| S.q (Qt.ld rfl (Cel.var 1 rfl) (o := 0) (off := 0) rfl (Cut.one isAgg3 rfl)) rfl <| S.p (Pu.eql rfl rfl) rfl <| S.endO <| O.l (Lo.callV (vs := [.pointer (some ⟨gr, 8, none⟩), .bool (decide (x.kind = 6))]) (caps := []) (by exact call66) rfl rfl (rp_add8 gr (Rp.inc (decide (x.kind = 1)) r.d0) (Rp.inc false r.d1) (Rp.inc false r.d2) (Rp.inc (decide (x.kind = 3)) r.d3) (Rp.inc false r.d4) (Rp.inc false r.d5) (Rp.inc (decide (x.kind = 12)) r.d6) (Rp.inc (decide (x.kind = 5)) r.d7) r.d8 r.d9 r.d10 r.d11 (decide (x.kind = 6))) [0] [1] (by decide) rfl [var g1 [.int .i64 x.kind, .int .i64 x.tick, .int .i64 x.s, .int .i64 x.id, .int .i64 x.code, .int .i64 x.a, .int .i64 x.b] 47] rfl RoOk.nil) rfl ?_
   rintro _ _ ⟨_, ⟨rfl, rfl⟩, rfl⟩
   refine O.nil <| J.seq <| J.drawTail 7 Tryz.mixed (by kernel_rfl) <| S.m rfl rfl <| S.m rfl rfl <| S.p (Pu.nilCheck rfl) rfl <| S.p (Pu.fieldAddr (off' := 9) runUnderlying23 rfl sizeOf3 rfl rfl rfl) rfl <| S.p (Pu.fieldAddr (off' := 0) runUnderlying47 rfl sizeOf3 rfl rfl rfl) rfl <| S.q (Qt.ld rfl (Cel.var 1 rfl) (o := 0) (off := 0) rfl (Cut.one isAgg3 rfl)) rfl <| S.p (Pu.eql rfl rfl) rfl <| S.endO <| O.l (Lo.callV (vs := [.pointer (some ⟨gr, 9, none⟩), .bool (decide (x.kind = 9))]) (caps := []) (by exact call66) rfl rfl (rp_add9 gr (Rp.inc (decide (x.kind = 1)) r.d0) (Rp.inc false r.d1) (Rp.inc false r.d2) (Rp.inc (decide (x.kind = 3)) r.d3) (Rp.inc false r.d4) (Rp.inc false r.d5) (Rp.inc (decide (x.kind = 12)) r.d6) (Rp.inc (decide (x.kind = 5)) r.d7) (Rp.inc (decide (x.kind = 6)) r.d8) r.d9 r.d10 r.d11 (decide (x.kind = 9))) [0] [1] (by decide) rfl [var g1 [.int .i64 x.kind, .int .i64 x.tick, .int .i64 x.s, .int .i64 x.id, .int .i64 x.code, .int .i64 x.a, .int .i64 x.b] 47] rfl RoOk.nil) rfl ?_
   rintro _ _ ⟨_, ⟨rfl, rfl⟩, rfl⟩
   refine O.nil <| J.seq <| J.region <| O.p (Pu.fieldAddr (off' := 0) runUnderlying47 rfl sizeOf3 rfl rfl rfl) rfl <| O.q (Qt.ld rfl (Cel.var 1 rfl) (o := 0) (off := 0) rfl (Cut.one isAgg3 rfl)) rfl <| O.p (Pu.eql rfl rfl) rfl <| O.nil ?_
   refine J.cond rfl (fun h51 => ?_) (fun h51 => ?_)
   ·
    have p52 := of_decide_eq_true h51
    refine J.drawTail 10 Tryz.mixed (by kernel_rfl) <| S.m rfl rfl <| S.m rfl rfl <| S.p (Pu.nilCheck rfl) rfl <| S.p (Pu.fieldAddr (off' := 10) runUnderlying23 rfl sizeOf3 rfl rfl rfl) rfl <| S.q (Qt.ld rfl (Cel.var 0 rfl) (o := 0) (off := 10) rfl (Cut.one isAgg3 rfl)) rfl <| S.p (Pu.fieldAddr (off' := 5) runUnderlying47 rfl sizeOf3 rfl rfl rfl) rfl <| S.q (Qt.ld rfl (Cel.var 1 rfl) (o := 0) (off := 5) rfl (Cut.one isAgg3 rfl)) rfl <| S.p (Pu.max rfl rfl) rfl <| S.p (Pu.nilCheck rfl) rfl <| S.p (Pu.fieldAddr (off' := 10) runUnderlying23 rfl sizeOf3 rfl rfl rfl) rfl <| S.endO ?_
    refine O.l0 (Lo.store 0 (vs := [.int .i64 (if x.a > r.d10 then x.a else r.d10)]) [.int .i64 (Rp.inc (decide (x.kind = 1)) r.d0), .int .i64 (Rp.inc false r.d1), .int .i64 (Rp.inc false r.d2), .int .i64 (Rp.inc (decide (x.kind = 3)) r.d3), .int .i64 (Rp.inc false r.d4), .int .i64 (Rp.inc false r.d5), .int .i64 (Rp.inc (decide (x.kind = 12)) r.d6), .int .i64 (Rp.inc (decide (x.kind = 5)) r.d7), .int .i64 (Rp.inc (decide (x.kind = 6)) r.d8), .int .i64 (Rp.inc (decide (x.kind = 9)) r.d9), .int .i64 (if x.a > r.d10 then x.a else r.d10), .int .i64 r.d11] rfl rfl rfl (by exact sizeOf3) rfl rfl rfl rfl rfl) ?_
    rintro _ _ rfl
    refine O.nil ?_
    exact J.done (Fin.ret (rs := []) rfl [] trivial [0] (by decide) [var gr [.int .i64 (Rp.inc (decide (x.kind = 1)) r.d0), .int .i64 (Rp.inc false r.d1), .int .i64 (Rp.inc false r.d2), .int .i64 (Rp.inc (decide (x.kind = 3)) r.d3), .int .i64 (Rp.inc false r.d4), .int .i64 (Rp.inc false r.d5), .int .i64 (Rp.inc (decide (x.kind = 12)) r.d6), .int .i64 (Rp.inc (decide (x.kind = 5)) r.d7), .int .i64 (Rp.inc (decide (x.kind = 6)) r.d8), .int .i64 (Rp.inc (decide (x.kind = 9)) r.d9), .int .i64 (if x.a > r.d10 then x.a else r.d10), .int .i64 r.d11] 23] rfl ⟨rfl, congrArg (fun (z : Rep) => ([var gr (Rep.cells z) 23] : List Sp)) (show (⟨Rp.inc (decide (x.kind = 1)) r.d0, Rp.inc false r.d1, Rp.inc false r.d2, Rp.inc (decide (x.kind = 3)) r.d3, Rp.inc false r.d4, Rp.inc false r.d5, Rp.inc (decide (x.kind = 12)) r.d6, Rp.inc (decide (x.kind = 5)) r.d7, Rp.inc (decide (x.kind = 6)) r.d8, Rp.inc (decide (x.kind = 9)) r.d9, if x.a > r.d10 then x.a else r.d10, r.d11⟩ : Rep) = Rp.cnt r x from (by first | (exfalso; omega) | (simp [Rp.cnt, *]; done)))⟩)
   ·
    have p53 := of_decide_eq_false h51
    refine J.skip ?_
    exact J.done (Fin.ret (rs := []) rfl [] trivial [0] (by decide) [var gr [.int .i64 (Rp.inc (decide (x.kind = 1)) r.d0), .int .i64 (Rp.inc false r.d1), .int .i64 (Rp.inc false r.d2), .int .i64 (Rp.inc (decide (x.kind = 3)) r.d3), .int .i64 (Rp.inc false r.d4), .int .i64 (Rp.inc false r.d5), .int .i64 (Rp.inc (decide (x.kind = 12)) r.d6), .int .i64 (Rp.inc (decide (x.kind = 5)) r.d7), .int .i64 (Rp.inc (decide (x.kind = 6)) r.d8), .int .i64 (Rp.inc (decide (x.kind = 9)) r.d9), .int .i64 r.d10, .int .i64 r.d11] 23] rfl ⟨rfl, congrArg (fun (z : Rep) => ([var gr (Rep.cells z) 23] : List Sp)) (show (⟨Rp.inc (decide (x.kind = 1)) r.d0, Rp.inc false r.d1, Rp.inc false r.d2, Rp.inc (decide (x.kind = 3)) r.d3, Rp.inc false r.d4, Rp.inc false r.d5, Rp.inc (decide (x.kind = 12)) r.d6, Rp.inc (decide (x.kind = 5)) r.d7, Rp.inc (decide (x.kind = 6)) r.d8, Rp.inc (decide (x.kind = 9)) r.d9, r.d10, r.d11⟩ : Rep) = Rp.cnt r x from (by first | (exfalso; omega) | (simp [Rp.cnt, *]; done)))⟩)

set_option maxRecDepth 100000 in
theorem rp_share (r : Rep) : Tri prog 31 #[.agg #[.int .i64 r.d0, .int .i64 r.d1, .int .i64 r.d2, .int .i64 r.d3, .int .i64 r.d4, .int .i64 r.d5, .int .i64 r.d6, .int .i64 r.d7, .int .i64 r.d8, .int .i64 r.d9, .int .i64 r.d10, .int .i64 r.d11]] [] [] (fun v L' => v = .int .i64 (Rp.share r.d4 r.d0) ∧ L' = []) := by
 refine Tri.enter (args := [.agg #[.int .i64 r.d0, .int .i64 r.d1, .int .i64 r.d2, .int .i64 r.d3, .int .i64 r.d4, .int .i64 r.d5, .int .i64 r.d6, .int .i64 r.d7, .int .i64 r.d8, .int .i64 r.d9, .int .i64 r.d10, .int .i64 r.d11]]) (body := _) 12 func31 rfl ntmps31 rfl ?_
 intro w0
 refine J.seq <| J.region <| O.l (Lo.box [.int .i64 r.d0, .int .i64 r.d1, .int .i64 r.d2, .int .i64 r.d3, .int .i64 r.d4, .int .i64 r.d5, .int .i64 r.d6, .int .i64 r.d7, .int .i64 r.d8, .int .i64 r.d9, .int .i64 r.d10, .int .i64 r.d11] rfl rfl) rfl ?_
 rintro _ _ ⟨g1, rfl, rfl⟩
 refine O.a rfl rfl <| O.nil <| J.seq <| J.seq <| J.region <| O.p (Pu.fieldAddr (off' := 0) runUnderlying23 rfl sizeOf3 rfl rfl rfl) rfl <| O.q (Qt.ld rfl (Cel.var 0 rfl) (o := 0) (off := 0) rfl (Cut.one isAgg3 rfl)) rfl <| O.p (Pu.lss rfl rfl) rfl <| O.nil ?_
 refine J.cond rfl (fun h2 => ?_) (fun h2 => ?_)
 ·
  have p3 := of_decide_eq_true h2
  refine J.seq <| J.region <| O.a rfl rfl <| O.nil ?_
  exact J.ret (Fin.ret (rs := [.tmp 2]) rfl [_] ⟨rfl, trivial⟩ [] (by decide) [] rfl ⟨(by first | (rw [Rp.share_no (by omega)]; done) | (rw [Rp.share_no (by omega)]; rfl) | (rw [Rp.share_yes (by omega)]; done) | (rw [Rp.share_yes (by omega)]; rfl)), rfl⟩)
 ·
  have p4 := of_decide_eq_false h2
  refine J.skip <| J.seq <| J.drawHead 7 Tryz.mixed (by kernel_rfl) <| Hd.p (Pu.fieldAddr (off' := 4) runUnderlying23 rfl sizeOf3 rfl rfl rfl) rfl <| Hd.q (Qt.ld rfl (Cel.var 0 rfl) (o := 0) (off := 4) rfl (Cut.one isAgg3 rfl)) rfl <| Hd.call (vs := [.int .i64 r.d4, .int .i64 100]) (caps := []) (by exact call59) rfl rfl (bd_Mul r.d4 100) (fun _ _ h => h) RoOk.nil rfl <| Hd.p (Pu.fieldAddr (off' := 0) runUnderlying23 rfl sizeOf3 rfl rfl rfl) rfl <| Hd.q (Qt.ld rfl (Cel.var 0 rfl) (o := 0) (off := 0) rfl (Cut.one isAgg3 rfl)) rfl <| Hd.p (Pu.quo' rfl rfl (by first | omega | (have h_ := Rp.mulC_bnd r.d4 100; omega) | (have h_ := Rp.mulC_bnd good 100; omega)) (by first | omega | (have h_ := Rp.mulC_bnd r.d4 100; omega) | (have h_ := Rp.mulC_bnd good 100; omega)) (by first | omega | (have h_ := Rp.mulC_bnd r.d4 100; omega) | (have h_ := Rp.mulC_bnd good 100; omega))) rfl <| Hd.p (Pu.assign rfl) rfl <| Hd.nil <| O.nil ?_
  exact J.ret (Fin.ret (rs := [.tmp 2]) rfl [_] ⟨rfl, trivial⟩ [] (by decide) [] rfl ⟨(by first | (rw [Rp.share_no (by omega)]; done) | (rw [Rp.share_no (by omega)]; rfl) | (rw [Rp.share_yes (by omega)]; done) | (rw [Rp.share_yes (by omega)]; rfl)), rfl⟩)

set_option maxRecDepth 100000 in
theorem r45_share (good decided : Int) : Tri prog 34 #[.int .i64 good, .int .i64 decided] [] [] (fun v L' => v = .int .i64 (Rp.share good decided) ∧ L' = []) := by
 refine Tri.enter (args := [.int .i64 good, .int .i64 decided]) (body := _) 11 func34 rfl ntmps34 rfl ?_
 intro w0
 refine J.seq <| J.region <| O.a rfl rfl <| O.nil <| J.seq <| J.seq <| J.region <| O.m rfl rfl <| O.p (Pu.lss rfl rfl) rfl <| O.nil ?_
 refine J.cond rfl (fun h1 => ?_) (fun h1 => ?_)
 ·
  have p2 := of_decide_eq_true h1
  refine J.seq <| J.region <| O.a rfl rfl <| O.nil ?_
  exact J.ret (Fin.ret (rs := [.tmp 4]) rfl [_] ⟨rfl, trivial⟩ [] (by decide) [] rfl ⟨(by first | (rw [Rp.share_no (by omega)]; done) | (rw [Rp.share_no (by omega)]; rfl) | (rw [Rp.share_yes (by omega)]; done) | (rw [Rp.share_yes (by omega)]; rfl)), rfl⟩)
 ·
  have p3 := of_decide_eq_false h1
  refine J.skip <| J.seq <| J.region <| O.m rfl rfl <| O.l (Lo.call [.int .i64 good, .int .i64 100] (by exact call61) rfl (r01_Mul good 100) [] [] (by decide) rfl [] rfl RoOk.nil) rfl ?_
  rintro _ _ ⟨_, ⟨rfl, rfl⟩, rfl⟩
  refine O.m rfl rfl <| O.p (Pu.quo' rfl rfl (by first | omega | (have h_ := Rp.mulC_bnd r.d4 100; omega) | (have h_ := Rp.mulC_bnd good 100; omega)) (by first | omega | (have h_ := Rp.mulC_bnd r.d4 100; omega) | (have h_ := Rp.mulC_bnd good 100; omega)) (by first | omega | (have h_ := Rp.mulC_bnd r.d4 100; omega) | (have h_ := Rp.mulC_bnd good 100; omega))) rfl <| O.a rfl rfl <| O.nil ?_
  exact J.ret (Fin.ret (rs := [.tmp 4]) rfl [_] ⟨rfl, trivial⟩ [] (by decide) [] rfl ⟨(by first | (rw [Rp.share_no (by omega)]; done) | (rw [Rp.share_no (by omega)]; rfl) | (rw [Rp.share_yes (by omega)]; done) | (rw [Rp.share_yes (by omega)]; rfl)), rfl⟩)

set_option maxRecDepth 100000 in
theorem trace_of1 (e : Ev) (g : Nat) (s : Int) : Tri prog 65 #[.agg #[.int .i64 e.kind, .int .i64 e.tick, .int .i64 e.s, .int .i64 e.id, .int .i64 e.code, .int .i64 e.a, .int .i64 e.b], .pointer (some ⟨g, 0, none⟩)] [var g [.int .i64 s] 3] [] (fun v L' => v = .bool (decide (e.s = s)) ∧ L' = []) := by
 refine Tri.enter (args := [.agg #[.int .i64 e.kind, .int .i64 e.tick, .int .i64 e.s, .int .i64 e.id, .int .i64 e.code, .int .i64 e.a, .int .i64 e.b], .pointer (some ⟨g, 0, none⟩)]) (body := _) 8 func65 rfl ntmps65 rfl ?_
 intro w0
 refine J.seq <| J.region <| O.l (Lo.box [.int .i64 e.kind, .int .i64 e.tick, .int .i64 e.s, .int .i64 e.id, .int .i64 e.code, .int .i64 e.a, .int .i64 e.b] rfl rfl) rfl ?_
 rintro _ _ ⟨g1, rfl, rfl⟩
 refine O.a rfl rfl <| O.nil <| J.seq <| J.region <| O.p (Pu.fieldAddr (off' := 2) runUnderlying47 rfl sizeOf3 rfl rfl rfl) rfl <| O.q (Qt.ld rfl (Cel.var 0 rfl) (o := 0) (off := 2) rfl (Cut.one isAgg3 rfl)) rfl <| O.q (Qt.ld rfl (Cel.roVar 0 rfl) (o := 0) (off := 0) rfl (Cut.one isAgg3 rfl)) rfl <| O.p (Pu.eql rfl rfl) rfl <| O.a rfl rfl <| O.nil ?_
 exact J.ret (Fin.ret (rs := [.tmp 3]) rfl [_] ⟨rfl, trivial⟩ [] (by decide) [] rfl ⟨rfl, rfl⟩)

set_option maxRecDepth 100000 in
theorem trace_some (fid : Nat) (caps : List Value) (p : Ev → Bool) (RoF : List Sp) (lv : Value) (l : List Ev) (hc : ∀ args w, (callFunc fid args).run prog w = .ok (.enter fid args) w) (hF : ∀ e : Ev, Tri prog fid (([.agg (Ev.cells e).toArray] : List Value) ++ caps).toArray RoF [] (fun v L' => v = .bool (p e) ∧ L' = [])) (hl : l.length ≤ 100000) : Tri prog 64 #[lv, (.func (.func fid) #[] caps.toArray)] (rd lv 7 (l.map Ev.cells) :: RoF) [] (fun v L' => L' = [row v 47 7 ((l.filter p).map Ev.cells)]) := by
 refine Tri.enter (args := [lv, (.func (.func fid) #[] caps.toArray)]) (body := _) 23 func64 rfl ntmps64 rfl ?_
 intro w0
 refine J.seq <| J.region <| O.a rfl rfl <| O.nil <| J.seq <| J.region <| O.a rfl rfl <| O.nil <| J.seq <| J.seq <| J.region <| O.m rfl rfl ?_
 refine O.q (Qt.lenM runUnderlying32 rfl (Src.ro 0 rfl)) rfl <| O.m rfl rfl <| O.nil <| J.block <| J.nilRow 47 7 <| J.loop (X := Nat × Value × List Ev) (fun ξ => ξ.1 ≤ l.length ∧ ξ.2.2 = (l.take ξ.1).filter p ∧ ξ.2.2.length ≤ ξ.1) (fun ξ => [(1, (.func (.func fid) #[] caps.toArray)), (4, Value.slice none 0 0), (5, ξ.2.1), (8, lv), (9, .int .i64 (l.length : Int)), (10, .int .i64 (ξ.1 : Int))]) (fun ξ => [row ξ.2.1 47 7 (ξ.2.2.map Ev.cells)]) (fun ξ => l.length - ξ.1) ⟨0, Value.slice none 0 0, []⟩ (show 0 ≤ l.length ∧ ([]) = (l.take 0).filter p ∧ ([]).length ≤ 0 from ⟨by omega, by simp, by simp⟩) ⟨rfl, rfl, rfl, rfl, rfl, (congrArg (fun z => some (Value.int .i64 z)) (by first | rfl | omega : (0 : Int) = (0 : Int))), trivial⟩ [0] (by decide) rfl ?_
 rintro ⟨k, V, out⟩ hq1
 obtain ⟨hk, hst, hlen⟩ : k ≤ l.length ∧ out = (l.take k).filter p ∧ out.length ≤ k := hq1
 show J _ _ [(1, (.func (.func fid) #[] caps.toArray)), (4, Value.slice none 0 0), (5, V), (8, lv), (9, .int .i64 (l.length : Int)), (10, .int .i64 (k : Int))] [row V 47 7 (out.map Ev.cells)]
 refine J.seq <| J.region <| O.p (Pu.lss rfl rfl) rfl <| O.nil <| J.seq ?_
 refine J.cond rfl (fun h2 => ?_) (fun h2 => ?_)
 ·
  have p3 := of_decide_eq_true h2
  refine J.skip <| J.seq <| J.block <| J.seq <| J.region ?_
  obtain ⟨e4, he4⟩ : ∃ x_, l[k]? = some x_ := ⟨_, List.getElem?_eq_getElem (by first | omega | (simp only [List.length_append, List.length_cons, List.length_nil, List.length_set]; omega))⟩
  refine O.q (Qt.idxM runUnderlying32 sizeOf47 rfl (Src.ro 0 rfl) rfl (by first | omega | (simp only [List.length_append, List.length_cons, List.length_nil, List.length_set]; omega)) (by first | omega | (simp only [List.length_append, List.length_cons, List.length_nil, List.length_set]; omega))) rfl <| O.q (Qt.ld rfl (Cel.eltM (Src.ro 0 rfl) he4) (o := (voff lv + k * 7)) (off := 0) (by omega) (Cut.agg [.int .i64 e4.kind, .int .i64 e4.tick, .int .i64 e4.s, .int .i64 e4.id, .int .i64 e4.code, .int .i64 e4.a, .int .i64 e4.b] isAgg47 sizeOf47 rfl rfl)) rfl <| O.l (Lo.alloc [.int .i64 0, .int .i64 0, .int .i64 0, .int .i64 0, .int .i64 0, .int .i64 0, .int .i64 0] (by exact zeroValue47) rfl) rfl ?_
  rintro _ _ ⟨g5, rfl, rfl⟩
  refine O.l0 (Lo.store 0 (vs := [.int .i64 e4.kind, .int .i64 e4.tick, .int .i64 e4.s, .int .i64 e4.id, .int .i64 e4.code, .int .i64 e4.a, .int .i64 e4.b]) [.int .i64 e4.kind, .int .i64 e4.tick, .int .i64 e4.s, .int .i64 e4.id, .int .i64 e4.code, .int .i64 e4.a, .int .i64 e4.b] rfl rfl rfl (by exact sizeOf47) rfl rfl rfl rfl rfl) ?_
  rintro _ _ rfl
  refine O.nil <| J.seq <| J.region <| O.m rfl rfl <| O.q (Qt.ld rfl (Cel.var 0 rfl) (o := 0) (off := 0) rfl (Cut.agg [.int .i64 e4.kind, .int .i64 e4.tick, .int .i64 e4.s, .int .i64 e4.id, .int .i64 e4.code, .int .i64 e4.a, .int .i64 e4.b] isAgg47 sizeOf47 rfl rfl)) rfl <| O.l (Lo.callV (vs := [.agg #[.int .i64 e4.kind, .int .i64 e4.tick, .int .i64 e4.s, .int .i64 e4.id, .int .i64 e4.code, .int .i64 e4.a, .int .i64 e4.b]]) (caps := caps) hc rfl rfl (hF e4) [] [0, 1] (by decide) rfl [var g5 [.int .i64 e4.kind, .int .i64 e4.tick, .int .i64 e4.s, .int .i64 e4.id, .int .i64 e4.code, .int .i64 e4.a, .int .i64 e4.b] 47, row V 47 7 (out.map Ev.cells)] rfl (RoOk.sub (fun _ hA => List.mem_cons_of_mem _ hA) [] rfl)) rfl ?_
  rintro _ _ ⟨_, ⟨rfl, rfl⟩, rfl⟩
  refine O.nil ?_
  refine J.cond rfl (fun h7 => ?_) (fun h7 => ?_)
  ·
   refine J.region <| O.m rfl rfl <| O.q (Qt.ld rfl (Cel.var 0 rfl) (o := 0) (off := 0) rfl (Cut.agg [.int .i64 e4.kind, .int .i64 e4.tick, .int .i64 e4.s, .int .i64 e4.id, .int .i64 e4.code, .int .i64 e4.a, .int .i64 e4.b] isAgg47 sizeOf47 rfl rfl)) rfl <| O.l (Lo.buildM (s := 7) Ev.cells [e4] [(0, .agg #[.int .i64 e4.kind, .int .i64 e4.tick, .int .i64 e4.s, .int .i64 e4.id, .int .i64 e4.code, .int .i64 e4.a, .int .i64 e4.b])] (by exact runUnderlying32) (by exact sizeOf47) (by exact zeroValue47) rfl rfl rfl (by kernel_rfl) rfl rfl) rfl ?_
   rintro V8 _ rfl
   refine O.l (Lo.appendM (s := 7) 2 (by exact underlying32) (by exact (info47).1) (by exact (info47).2.1) (by exact (info47).2.2.1) (by exact (info47).2.2.2) rfl rfl rfl rfl rfl (Src.row 0 rfl) Ev.one (by first | omega | (simp only [List.length_append, List.length_cons, List.length_nil, List.length_set]; omega)) (by first | omega | (simp only [List.length_append, List.length_cons, List.length_nil, List.length_set]; omega))) rfl ?_
   rintro V9 _ rfl
   refine O.a rfl rfl <| O.nil <| J.blk <| J.region <| O.p (Pu.add' rfl rfl (by first | omega | (simp only [List.length_append, List.length_cons, List.length_nil, List.length_set]; omega))) rfl <| O.m rfl rfl <| O.nil ?_
   exact J.lp ⟨k + 1, V9, out ++ ([e4])⟩ (show (k + 1) ≤ l.length ∧ (out ++ ([e4])) = (l.take (k + 1)).filter p ∧ (out ++ ([e4])).length ≤ (k + 1) from ⟨by omega, by rw [List.take_add_one, (by assumption : l[k]? = some _), List.filter_append, ← hst]; simp [*], by first | omega | (simp; omega)⟩) (show l.length - (k + 1) < l.length - k from (by first | omega | (simp only [List.length_append, List.length_cons, List.length_nil, List.length_set]; omega))) ⟨rfl, rfl, rfl, rfl, rfl, (congrArg (fun z => some (Value.int .i64 z)) (by first | rfl | omega : ((k : Int) + 1 : Int) = ((k + 1) : Int))), trivial⟩ [2] (by decide) rfl
  ·
   refine J.skip <| J.blk <| J.region <| O.p (Pu.add' rfl rfl (by first | omega | (simp only [List.length_append, List.length_cons, List.length_nil, List.length_set]; omega))) rfl <| O.m rfl rfl <| O.nil ?_
   exact J.lp ⟨k + 1, V, out⟩ (show (k + 1) ≤ l.length ∧ out = (l.take (k + 1)).filter p ∧ out.length ≤ (k + 1) from ⟨by omega, by rw [List.take_add_one, (by assumption : l[k]? = some _), List.filter_append, ← hst]; simp [*], by first | omega | (simp; omega)⟩) (show l.length - (k + 1) < l.length - k from (by first | omega | (simp only [List.length_append, List.length_cons, List.length_nil, List.length_set]; omega))) ⟨rfl, rfl, rfl, rfl, rfl, (congrArg (fun z => some (Value.int .i64 z)) (by first | rfl | omega : ((k : Int) + 1 : Int) = ((k + 1) : Int))), trivial⟩ [1] (by decide) rfl
 ·
  have p10 := of_decide_eq_false h2
  refine J.exit _ rfl <| J.seq <| J.region <| O.m rfl rfl <| O.a rfl rfl <| O.nil ?_
  exact J.ret (Fin.ret (rs := [.tmp 4]) rfl [_] ⟨rfl, trivial⟩ [0] (by decide) [row V 47 7 (out.map Ev.cells)] rfl (congrArg (fun o => ([row V 47 7 (o.map Ev.cells)] : List Sp)) (show out = l.filter p from (by rw [hst, List.take_of_length_le (by omega)]))))

set_option maxRecDepth 100000 in
theorem trace_of (s : Int) (lv : Value) (l : List Ev) (hl : l.length ≤ 100000) : Tri prog 38 #[.int .i64 s, lv] [rd lv 7 (l.map Ev.cells)] [] (fun v L' => L' = [row v 47 7 ((Mono.of s l).map Ev.cells)]) := by
 refine Tri.enter (args := [.int .i64 s, lv]) (body := _) 8 func38 rfl ntmps38 rfl ?_
 intro w0
 refine J.seq <| J.region <| O.l (Lo.box [.int .i64 s] rfl rfl) rfl ?_
 rintro _ _ ⟨g1, rfl, rfl⟩
 refine O.a rfl rfl <| O.nil <| J.seq <| J.region <| O.m rfl rfl <| O.p (Pu.makeFunc [.pointer (some ⟨g1, 0, none⟩)] rfl) rfl <| O.l (Lo.call [lv, .func (.func 65) #[] #[.pointer (some ⟨g1, 0, none⟩)]] (by exact call64) rfl (trace_some 65 [.pointer (some ⟨g1, 0, none⟩)] (fun e => decide (e.s = s)) [var g1 [.int .i64 s] 3] lv l (by exact (by exact call65)) (fun e => trace_of1 e g1 s) (by omega)) [] [0] (by decide) rfl [var g1 [.int .i64 s] 3] rfl (RoOk.ro 0 rfl [] rfl (RoOk.of 0 rfl same_rd [] (by decide) rfl RoOk.nil))) rfl ?_
 rintro v2 _ ⟨_, rfl, rfl⟩
 refine O.a rfl rfl <| O.nil ?_
 exact J.ret (Fin.ret (rs := [.tmp 4]) rfl [_] ⟨rfl, trivial⟩ [0] (by decide) [row v2 47 7 ((Mono.of s l).map Ev.cells)] rfl rfl)

end Go.Proofs.YtnkhmbbnabejhaaGreatDoor
