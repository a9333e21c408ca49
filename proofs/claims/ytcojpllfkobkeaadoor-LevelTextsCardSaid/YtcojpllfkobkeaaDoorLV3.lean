/-
  Walks, printed by a program of mine (lk.py): each function meets its contract.
-/
import Derived.KernelRfl
import Derived.Test.YtcojpllfkobkeaaDoorLV2
namespace Go.Proofs.YtcojpllfkobkeaaDoor
open Go Go.LK
set_option linter.unusedSimpArgs false

set_option maxRecDepth 100000 in
theorem r08_Right (b c : Int) : Tri Tryd.prog 7 #[.int .i64 b, .int .i64 c] [] [] (fun v L' => v = .bool (Lv.right b c) ∧ L' = []) := by
  refine Tri.enter (args := [.int .i64 b, .int .i64 c]) (body := _) 19 Tryd.func7 rfl Tryd.ntmps7 rfl ?_
  intro w0
  refine J.seq ?_
  refine J.region ?_
  refine O.p (Pu.assign rfl) rfl ?_
  refine O.nil ?_
  refine J.seq ?_
  refine J.region ?_
  refine O.p (Pu.move rfl) rfl ?_
  refine O.p (Pu.geq rfl rfl) rfl ?_
  refine O.p (Pu.move rfl) rfl ?_
  refine by_bool (decide (1 ≤ b)) (fun h1 => ?_) (fun h1 => ?_)
  ·
    have p2 := of_decide_eq_true h1
    refine O.gq (t := 7) rfl rfl h1 rfl (Pu.qt (Pu.move rfl)) rfl ?_
    refine O.gq (t := 7) rfl rfl h1 rfl (Pu.qt (Pu.leq rfl rfl)) rfl ?_
    refine O.p (Pu.pickT rfl h1 rfl) rfl ?_
    refine O.p (Pu.move rfl) rfl ?_
    refine by_bool (decide (b ≤ 8)) (fun h3 => ?_) (fun h3 => ?_)
    ·
      have p4 := of_decide_eq_true h3
      refine O.gq (t := 11) rfl rfl h3 rfl (Pu.qt (Pu.move rfl)) rfl ?_
      refine O.gq (t := 11) rfl rfl h3 rfl (Pu.qt (Pu.geq rfl rfl)) rfl ?_
      refine O.p (Pu.pickT rfl h3 rfl) rfl ?_
      refine O.p (Pu.move rfl) rfl ?_
      refine by_bool (decide (1 ≤ c)) (fun h5 => ?_) (fun h5 => ?_)
      ·
        have p6 := of_decide_eq_true h5
        refine O.gq (t := 15) rfl rfl h5 rfl (Pu.qt (Pu.move rfl)) rfl ?_
        refine O.gq (t := 15) rfl rfl h5 rfl (Pu.qt (Pu.leq rfl rfl)) rfl ?_
        refine O.p (Pu.pickT rfl h5 rfl) rfl ?_
        refine O.p (Pu.assign rfl) rfl ?_
        refine O.nil ?_
        exact J.ret (Fin.ret (rs := [.tmp 4]) rfl [_] ⟨rfl, trivial⟩ [] (by decide) [] rfl ⟨(by simp [vOf, Lv.right, *]), rfl⟩)
      ·
        have p7 := of_decide_eq_false h5
        refine O.gskip (t := 15) rfl rfl (no_bool (by rw [h5]; decide)) rfl rfl ?_
        refine O.gskip (t := 15) rfl rfl (no_bool (by rw [h5]; decide)) rfl rfl ?_
        refine O.p (Pu.pickF rfl h5 rfl) rfl ?_
        refine O.p (Pu.assign rfl) rfl ?_
        refine O.nil ?_
        exact J.ret (Fin.ret (rs := [.tmp 4]) rfl [_] ⟨rfl, trivial⟩ [] (by decide) [] rfl ⟨(by simp [vOf, Lv.right, *]), rfl⟩)
    ·
      have p8 := of_decide_eq_false h3
      refine O.gskip (t := 11) rfl rfl (no_bool (by rw [h3]; decide)) rfl rfl ?_
      refine O.gskip (t := 11) rfl rfl (no_bool (by rw [h3]; decide)) rfl rfl ?_
      refine O.p (Pu.pickF rfl h3 rfl) rfl ?_
      refine O.p (Pu.move rfl) rfl ?_
      refine O.gskip (t := 15) rfl rfl (no_bool (by decide)) rfl rfl ?_
      refine O.gskip (t := 15) rfl rfl (no_bool (by decide)) rfl rfl ?_
      refine O.p (Pu.pickF rfl rfl rfl) rfl ?_
      refine O.p (Pu.assign rfl) rfl ?_
      refine O.nil ?_
      exact J.ret (Fin.ret (rs := [.tmp 4]) rfl [_] ⟨rfl, trivial⟩ [] (by decide) [] rfl ⟨(by simp [vOf, Lv.right, *]), rfl⟩)
  ·
    have p9 := of_decide_eq_false h1
    refine O.gskip (t := 7) rfl rfl (no_bool (by rw [h1]; decide)) rfl rfl ?_
    refine O.gskip (t := 7) rfl rfl (no_bool (by rw [h1]; decide)) rfl rfl ?_
    refine O.p (Pu.pickF rfl h1 rfl) rfl ?_
    refine O.p (Pu.move rfl) rfl ?_
    refine O.gskip (t := 11) rfl rfl (no_bool (by decide)) rfl rfl ?_
    refine O.gskip (t := 11) rfl rfl (no_bool (by decide)) rfl rfl ?_
    refine O.p (Pu.pickF rfl rfl rfl) rfl ?_
    refine O.p (Pu.move rfl) rfl ?_
    refine O.gskip (t := 15) rfl rfl (no_bool (by decide)) rfl rfl ?_
    refine O.gskip (t := 15) rfl rfl (no_bool (by decide)) rfl rfl ?_
    refine O.p (Pu.pickF rfl rfl rfl) rfl ?_
    refine O.p (Pu.assign rfl) rfl ?_
    refine O.nil ?_
    exact J.ret (Fin.ret (rs := [.tmp 4]) rfl [_] ⟨rfl, trivial⟩ [] (by decide) [] rfl ⟨(by simp [vOf, Lv.right, *]), rfl⟩)

set_option maxRecDepth 100000 in
theorem r08_Split (b c l : Int) (hg : Lv.Grid b c) : Tri Tryd.prog 13 #[.int .i64 b, .int .i64 c, .int .i64 l] [] [] (fun v L' => v = .tuple #[.int .i64 (Lv.split b c l).1, .int .i64 (Lv.split b c l).2.1, .int .i64 (Lv.split b c l).2.2] ∧ L' = []) := by
  refine Tri.enter (args := [.int .i64 b, .int .i64 c, .int .i64 l]) (body := _) 29 Tryd.func13 rfl Tryd.ntmps13 rfl ?_
  intro w0
  refine J.seq ?_
  refine J.region ?_
  refine O.p (Pu.assign rfl) rfl ?_
  refine O.p (Pu.assign rfl) rfl ?_
  refine O.p (Pu.assign rfl) rfl ?_
  refine O.nil ?_
  refine J.seq ?_
  refine J.region ?_
  refine O.p (Pu.assign rfl) rfl ?_
  refine O.nil ?_
  refine J.seq ?_
  refine J.seq ?_
  refine J.region ?_
  refine O.p (Pu.assign rfl) rfl ?_
  refine O.nil ?_
  refine J.block ?_
  refine J.loop (X := Int × Int) (fun ξ => 0 ≤ ξ.1 ∧ ξ.1 ≤ b ∧ ξ.2 = ξ.1 * c ∧ 0 ≤ ξ.2 ∧ ξ.2 ≤ 128 ∧ (l < 0 ∨ ξ.2 ≤ l)) (fun ξ => [(0, .int .i64 b), (1, .int .i64 c), (2, .int .i64 l), (9, .int .i64 ξ.2), (10, .int .i64 ξ.1)]) (fun ξ => []) (fun ξ => (b - ξ.1).toNat) ⟨0, 0⟩ (show 0 ≤ 0 ∧ 0 ≤ b ∧ 0 = 0 * c ∧ 0 ≤ 0 ∧ 0 ≤ 128 ∧ (l < 0 ∨ 0 ≤ l) from ⟨by omega, (by have := hg.b0; omega), (by simp), by omega, by omega, by omega⟩) ⟨rfl, rfl, rfl, rfl, rfl, trivial⟩ [] (by decide) rfl ?_
  rintro ⟨x, k⟩ hq1
  obtain ⟨hx0, hx1, hk, hk0, hk1, hno⟩ : 0 ≤ x ∧ x ≤ b ∧ k = x * c ∧ 0 ≤ k ∧ k ≤ 128 ∧ (l < 0 ∨ k ≤ l) := hq1
  show J _ _ [(0, .int .i64 b), (1, .int .i64 c), (2, .int .i64 l), (9, .int .i64 k), (10, .int .i64 x)] []
  refine J.seq ?_
  refine J.seq ?_
  refine J.region ?_
  refine O.p (Pu.move rfl) rfl ?_
  refine O.p (Pu.move rfl) rfl ?_
  refine O.p (Pu.lss rfl rfl) rfl ?_
  refine O.nil ?_
  refine J.cond rfl (fun h2 => ?_) (fun h2 => ?_)
  ·
    have p3 := of_decide_eq_true h2
    refine J.skip ?_
    refine J.seq ?_
    refine J.block ?_
    refine J.seq ?_
    refine J.region ?_
    refine O.p (Pu.assign rfl) rfl ?_
    refine O.nil ?_
    refine J.block ?_
    refine J.loop (X := Int × Int) (fun ξ => 0 ≤ ξ.1 ∧ ξ.1 ≤ c ∧ ξ.2 = x * c + ξ.1 ∧ 0 ≤ ξ.2 ∧ ξ.2 ≤ 128 ∧ (l < 0 ∨ ξ.2 ≤ l)) (fun ξ => [(0, .int .i64 b), (1, .int .i64 c), (2, .int .i64 l), (9, .int .i64 ξ.2), (10, .int .i64 x), (11, .int .i64 ξ.1)]) (fun ξ => []) (fun ξ => (c - ξ.1).toNat) ⟨0, k⟩ (show 0 ≤ 0 ∧ 0 ≤ c ∧ k = x * c + 0 ∧ 0 ≤ k ∧ k ≤ 128 ∧ (l < 0 ∨ k ≤ l) from ⟨by omega, (by have := hg.c0; omega), by omega, by omega, by omega, by omega⟩) ⟨rfl, rfl, rfl, rfl, rfl, rfl, trivial⟩ [] (by decide) rfl ?_
    rintro ⟨y, m⟩ hq4
    obtain ⟨hy0, hy1, hm, hm0, hm1, hny⟩ : 0 ≤ y ∧ y ≤ c ∧ m = x * c + y ∧ 0 ≤ m ∧ m ≤ 128 ∧ (l < 0 ∨ m ≤ l) := hq4
    show J _ _ [(0, .int .i64 b), (1, .int .i64 c), (2, .int .i64 l), (9, .int .i64 m), (10, .int .i64 x), (11, .int .i64 y)] []
    refine J.seq ?_
    refine J.seq ?_
    refine J.region ?_
    refine O.p (Pu.move rfl) rfl ?_
    refine O.p (Pu.move rfl) rfl ?_
    refine O.p (Pu.lss rfl rfl) rfl ?_
    refine O.nil ?_
    refine J.cond rfl (fun h5 => ?_) (fun h5 => ?_)
    ·
      have p6 := of_decide_eq_true h5
      refine J.skip ?_
      refine J.seq ?_
      refine J.block ?_
      refine J.seq ?_
      refine J.seq ?_
      refine J.region ?_
      refine O.p (Pu.move rfl) rfl ?_
      refine O.p (Pu.move rfl) rfl ?_
      refine O.p (Pu.eql rfl rfl) rfl ?_
      refine O.nil ?_
      refine J.cond rfl (fun h7 => ?_) (fun h7 => ?_)
      ·
        have p8 := of_decide_eq_true h7
        refine J.seq ?_
        refine J.region ?_
        refine O.p (Pu.move rfl) rfl ?_
        refine O.p (Pu.move rfl) rfl ?_
        refine O.p (Pu.assign rfl) rfl ?_
        refine O.p (Pu.assign rfl) rfl ?_
        refine O.p (Pu.assign rfl) rfl ?_
        refine O.nil ?_
        exact J.ret (Fin.ret (rs := [.tmp 6, .tmp 7, .tmp 8]) rfl [_, _, _] ⟨rfl, rfl, rfl, trivial⟩ [] (by decide) [] rfl ⟨(by rw [Lv.split_hit hg.c0 hx0 (by omega) hy0 (by omega) (by omega)]; rfl), rfl⟩)
      ·
        have p9 := of_decide_eq_false h7
        refine J.skip ?_
        refine J.region ?_
        refine O.p (Pu.move rfl) rfl ?_
        refine O.p (Pu.add' rfl rfl (by first | omega | (have h1_ := hg.b1; have h2_ := hg.c1; omega))) rfl ?_
        refine O.p (Pu.assign rfl) rfl ?_
        refine O.nil ?_
        refine J.blk ?_
        refine J.region ?_
        refine O.p (Pu.move rfl) rfl ?_
        refine O.p (Pu.add' rfl rfl (by first | omega | (have h1_ := hg.b1; have h2_ := hg.c1; omega))) rfl ?_
        refine O.p (Pu.assign rfl) rfl ?_
        refine O.nil ?_
        exact J.lp ⟨y + 1, m + 1⟩ (show 0 ≤ (y + 1) ∧ (y + 1) ≤ c ∧ (m + 1) = x * c + (y + 1) ∧ 0 ≤ (m + 1) ∧ (m + 1) ≤ 128 ∧ (l < 0 ∨ (m + 1) ≤ l) from ⟨by omega, by omega, by omega, by omega, (by have h_ := Lv.row_at hg.c0 hx0 (by omega : x < b) hy0 (by omega : y < c); have h2_ := hg.mul; omega), by omega⟩) (show (c - (y + 1)).toNat < (c - y).toNat from (by first | omega | (have h1_ := hg.b1; have h2_ := hg.c1; omega))) ⟨rfl, rfl, rfl, rfl, rfl, rfl, trivial⟩ [] (by decide) rfl
    ·
      have p10 := of_decide_eq_false h5
      refine J.exit _ rfl ?_
      refine J.blk ?_
      refine J.region ?_
      refine O.p (Pu.move rfl) rfl ?_
      refine O.p (Pu.add' rfl rfl (by first | omega | (have h1_ := hg.b1; have h2_ := hg.c1; omega))) rfl ?_
      refine O.p (Pu.assign rfl) rfl ?_
      refine O.nil ?_
      exact J.lp ⟨x + 1, m⟩ (show 0 ≤ (x + 1) ∧ (x + 1) ≤ b ∧ m = (x + 1) * c ∧ 0 ≤ m ∧ m ≤ 128 ∧ (l < 0 ∨ m ≤ l) from ⟨by omega, by omega, Lv.row_next hm (by omega), by omega, by omega, by omega⟩) (show (b - (x + 1)).toNat < (b - x).toNat from (by first | omega | (have h1_ := hg.b1; have h2_ := hg.c1; omega))) ⟨rfl, rfl, rfl, rfl, rfl, trivial⟩ [] (by decide) rfl
  ·
    have p11 := of_decide_eq_false h2
    refine J.exit _ rfl ?_
    refine J.seq ?_
    refine J.region ?_
    refine O.p (Pu.assign rfl) rfl ?_
    refine O.p (Pu.assign rfl) rfl ?_
    refine O.p (Pu.assign rfl) rfl ?_
    refine O.nil ?_
    exact J.ret (Fin.ret (rs := [.tmp 6, .tmp 7, .tmp 8]) rfl [_, _, _] ⟨rfl, rfl, rfl, trivial⟩ [] (by decide) [] rfl ⟨(by rw [Lv.split_out (by have hxb : x = b := (by omega); subst hxb; omega)]; rfl), rfl⟩)

set_option maxRecDepth 100000 in
theorem r08_Of (b c x y : Int) (hg : Lv.Grid b c) : Tri Tryd.prog 12 #[.int .i64 b, .int .i64 c, .int .i64 x, .int .i64 y] [] [] (fun v L' => v = .tuple #[.int .i64 (Lv.of b c x y).1, .int .i64 (Lv.of b c x y).2] ∧ L' = []) := by
  refine Tri.enter (args := [.int .i64 b, .int .i64 c, .int .i64 x, .int .i64 y]) (body := _) 38 Tryd.func12 rfl Tryd.ntmps12 rfl ?_
  intro w0
  refine J.seq ?_
  refine J.region ?_
  refine O.p (Pu.assign rfl) rfl ?_
  refine O.p (Pu.assign rfl) rfl ?_
  refine O.nil ?_
  refine J.seq ?_
  refine J.seq ?_
  refine J.region ?_
  refine O.p (Pu.assign rfl) rfl ?_
  refine O.nil ?_
  refine J.block ?_
  refine J.loop (X := Int) (fun ξ => 0 ≤ ξ ∧ ξ ≤ b * c ∧ ∀ j, 0 ≤ j → j < ξ → ¬ (j / c = x ∧ j % c = y)) (fun ξ => [(0, .int .i64 b), (1, .int .i64 c), (2, .int .i64 x), (3, .int .i64 y), (10, .int .i64 ξ)]) (fun ξ => []) (fun ξ => (b * c - ξ).toNat) 0 (show 0 ≤ 0 ∧ 0 ≤ b * c ∧ ∀ j, 0 ≤ j → j < 0 → ¬ (j / c = x ∧ j % c = y) from ⟨by omega, (by have := hg.mul; omega), fun j h1 h2 => by omega⟩) ⟨rfl, rfl, rfl, rfl, rfl, trivial⟩ [] (by decide) rfl ?_
  rintro k hq1
  obtain ⟨hk0, hk1, hno⟩ : 0 ≤ k ∧ k ≤ b * c ∧ ∀ j, 0 ≤ j → j < k → ¬ (j / c = x ∧ j % c = y) := hq1
  show J _ _ [(0, .int .i64 b), (1, .int .i64 c), (2, .int .i64 x), (3, .int .i64 y), (10, .int .i64 k)] []
  refine J.seq ?_
  refine J.seq ?_
  refine J.region ?_
  refine O.p (Pu.move rfl) rfl ?_
  refine O.p (Pu.move rfl) rfl ?_
  refine O.p (Pu.move rfl) rfl ?_
  refine O.p (Pu.mul' rfl rfl (by have h3_ := hg.mul; omega)) rfl ?_
  refine O.p (Pu.lss rfl rfl) rfl ?_
  refine O.nil ?_
  refine J.cond rfl (fun h2 => ?_) (fun h2 => ?_)
  ·
    have p3 := of_decide_eq_true h2
    refine J.skip ?_
    refine J.seq ?_
    refine J.block ?_
    refine J.seq ?_
    refine J.region ?_
    refine O.p (Pu.move rfl) rfl ?_
    refine O.p (Pu.move rfl) rfl ?_
    refine O.p (Pu.move rfl) rfl ?_
    refine O.l (Lo.call [.int .i64 b, .int .i64 c, .int .i64 k] (by exact Tryd.call13) rfl (r08_Split b c k (by assumption)) [] [] (by decide) rfl _ rfl RoOk.nil) rfl ?_
    rintro _ _ ⟨_, ⟨rfl, rfl⟩, rfl⟩
    refine O.p (Pu.move rfl) rfl ?_
    refine O.p (Pu.extract rfl rfl) rfl ?_
    refine O.p (Pu.extract rfl rfl) rfl ?_
    refine O.p (Pu.extract rfl rfl) rfl ?_
    refine O.p (Pu.assign rfl) rfl ?_
    refine O.p (Pu.assign rfl) rfl ?_
    refine O.p (Pu.assign rfl) rfl ?_
    refine O.nil ?_
    refine J.seq ?_
    refine J.region ?_
    refine O.p (Pu.move rfl) rfl ?_
    refine O.p (Pu.move rfl) rfl ?_
    refine O.p (Pu.eql rfl rfl) rfl ?_
    refine O.p (Pu.move rfl) rfl ?_
    refine by_bool (decide (((Lv.split b c k).1) = x)) (fun h5 => ?_) (fun h5 => ?_)
    ·
      have p6 := of_decide_eq_true h5
      refine O.gq (t := 32) rfl rfl h5 rfl (Pu.qt (Pu.move rfl)) rfl ?_
      refine O.gq (t := 32) rfl rfl h5 rfl (Pu.qt (Pu.move rfl)) rfl ?_
      refine O.gq (t := 32) rfl rfl h5 rfl (Pu.qt (Pu.eql rfl rfl)) rfl ?_
      refine O.p (Pu.pickT rfl h5 rfl) rfl ?_
      refine O.nil ?_
      refine J.cond rfl (fun h7 => ?_) (fun h7 => ?_)
      ·
        have p8 := of_decide_eq_true h7
        refine J.seq ?_
        refine J.region ?_
        refine O.p (Pu.move rfl) rfl ?_
        refine O.p (Pu.assign rfl) rfl ?_
        refine O.p (Pu.assign rfl) rfl ?_
        refine O.nil ?_
        exact J.ret (Fin.ret (rs := [.tmp 8, .tmp 9]) rfl [_, _] ⟨rfl, rfl, trivial⟩ [] (by decide) [] rfl ⟨(by rw [Lv.of_hit hg.c0 hk0 (by omega) (by omega) (by omega)]; rfl), rfl⟩)
      ·
        have p9 := of_decide_eq_false h7
        refine J.skip ?_
        refine J.blk ?_
        refine J.region ?_
        refine O.p (Pu.move rfl) rfl ?_
        refine O.p (Pu.add' rfl rfl (by have h3_ := hg.mul; omega)) rfl ?_
        refine O.p (Pu.assign rfl) rfl ?_
        refine O.nil ?_
        exact J.lp (k + 1) (show 0 ≤ (k + 1) ∧ (k + 1) ≤ b * c ∧ ∀ j, 0 ≤ j → j < (k + 1) → ¬ (j / c = x ∧ j % c = y) from ⟨by omega, by omega, Lv.of_next (b := b) hk0 (by omega) hno (by simp_all)⟩) (show (b * c - (k + 1)).toNat < (b * c - k).toNat from (by have h3_ := hg.mul; omega)) ⟨rfl, rfl, rfl, rfl, rfl, trivial⟩ [] (by decide) rfl
    ·
      have p10 := of_decide_eq_false h5
      refine O.gskip (t := 32) rfl rfl (no_bool (by rw [h5]; decide)) rfl rfl ?_
      refine O.gskip (t := 32) rfl rfl (no_bool (by rw [h5]; decide)) rfl rfl ?_
      refine O.gskip (t := 32) rfl rfl (no_bool (by rw [h5]; decide)) rfl rfl ?_
      refine O.p (Pu.pickF rfl h5 rfl) rfl ?_
      refine O.nil ?_
      refine J.condF rfl rfl ?_
      refine J.skip ?_
      refine J.blk ?_
      refine J.region ?_
      refine O.p (Pu.move rfl) rfl ?_
      refine O.p (Pu.add' rfl rfl (by have h3_ := hg.mul; omega)) rfl ?_
      refine O.p (Pu.assign rfl) rfl ?_
      refine O.nil ?_
      exact J.lp (k + 1) (show 0 ≤ (k + 1) ∧ (k + 1) ≤ b * c ∧ ∀ j, 0 ≤ j → j < (k + 1) → ¬ (j / c = x ∧ j % c = y) from ⟨by omega, by omega, Lv.of_next (b := b) hk0 (by omega) hno (by simp_all)⟩) (show (b * c - (k + 1)).toNat < (b * c - k).toNat from (by have h3_ := hg.mul; omega)) ⟨rfl, rfl, rfl, rfl, rfl, trivial⟩ [] (by decide) rfl
  ·
    have p11 := of_decide_eq_false h2
    refine J.exit _ rfl ?_
    refine J.seq ?_
    refine J.region ?_
    refine O.p (Pu.assign rfl) rfl ?_
    refine O.p (Pu.assign rfl) rfl ?_
    refine O.nil ?_
    exact J.ret (Fin.ret (rs := [.tmp 8, .tmp 9]) rfl [_, _] ⟨rfl, rfl, trivial⟩ [] (by decide) [] rfl ⟨(by rw [Lv.of_none hg.c0 (fun j h1 h2 => hno j h1 (by omega))]; rfl), rfl⟩)

end Go.Proofs.YtcojpllfkobkeaaDoor
