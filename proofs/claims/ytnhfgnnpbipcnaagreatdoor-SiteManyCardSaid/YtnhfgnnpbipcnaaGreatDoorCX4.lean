/-
  Walks, printed by a program of mine (lk.py): each function meets its contract.
-/
import Derived.KernelRfl
import Derived.Test.YtnhfgnnpbipcnaaGreatDoorCXA
namespace Go.Proofs.YtnhfgnnpbipcnaaGreatDoor
open Go Go.LK Go.Proofs.Tryz
set_option linter.unusedSimpArgs false

set_option maxRecDepth 100000 in
theorem cf_from (n a b : Int) : Tri prog 57 #[.int .i64 n, .int .i64 a, .int .i64 b] [] [] (fun v L' => v = .bool (Cf.from_ n a b) ∧ L' = []) := by
 refine Tri.enter (args := [.int .i64 n, .int .i64 a, .int .i64 b]) (body := _) 15 func57 rfl ntmps57 rfl ?_
 intro w0
 refine J.seq <| J.region <| O.a rfl rfl <| O.nil <| J.seq <| J.region <| O.m rfl rfl <| O.m rfl rfl <| O.p (Pu.geq rfl rfl) rfl <| O.m rfl rfl ?_
 refine by_bool (decide (a ≤ n)) (fun h1 => ?_) (fun h1 => ?_)
 ·
  have p2 := of_decide_eq_true h1
  refine O.gq (t := 10) rfl rfl h1 rfl (Pu.qt (Pu.move rfl)) rfl <| O.gq (t := 10) rfl rfl h1 rfl (Pu.qt (Pu.move rfl)) rfl <| O.gq (t := 10) rfl rfl h1 rfl (Pu.qt (Pu.leq rfl rfl)) rfl <| O.p (Pu.pickT rfl h1 rfl) rfl <| O.a rfl rfl <| O.nil ?_
  exact J.ret (Fin.ret (rs := [.tmp 6]) rfl [_] ⟨rfl, trivial⟩ [] (by decide) [] rfl ⟨(by simp only [vOf, Cf.from_, *, decide_true, decide_false, Bool.true_and, Bool.false_and]), rfl⟩)
 ·
  have p3 := of_decide_eq_false h1
  refine O.gskip (t := 10) rfl rfl (no_bool (by rw [h1]; decide)) rfl rfl <| O.gskip (t := 10) rfl rfl (no_bool (by rw [h1]; decide)) rfl rfl <| O.gskip (t := 10) rfl rfl (no_bool (by rw [h1]; decide)) rfl rfl <| O.p (Pu.pickF rfl h1 rfl) rfl <| O.a rfl rfl <| O.nil ?_
  exact J.ret (Fin.ret (rs := [.tmp 6]) rfl [_] ⟨rfl, trivial⟩ [] (by decide) [] rfl ⟨(by simp only [vOf, Cf.from_, *, decide_true, decide_false, Bool.true_and, Bool.false_and]), rfl⟩)

set_option maxRecDepth 100000 in
theorem cf_right (c : Cl) (x0 x1 x2 x3 x4 x5 x6 x7 x8 x9 x10 x11 x12 : Int) (cv : Value) (cs : List Cl) (self services : Int) (h0 : -1000000 ≤ services) (h1 : services ≤ 1000000) : Tri prog 95 #[.agg #[.int .i64 c.to, .int .i64 c.tier, .int .i64 c.weight, .int .i64 c.most], .agg #[.int .i64 x0, .int .i64 x1, .int .i64 x2, .int .i64 x3, .int .i64 x4, .int .i64 x5, .int .i64 x6, .int .i64 x7, .int .i64 x8, .int .i64 x9, .int .i64 x10, .int .i64 x11, .int .i64 x12, cv], .int .i64 self, .int .i64 services] [rd cv 4 (cs.map Cl.cells)] [] (fun v L' => v = .bool (Cf.right c x3 self services) ∧ L' = []) := by
 refine Tri.enter (args := [.agg #[.int .i64 c.to, .int .i64 c.tier, .int .i64 c.weight, .int .i64 c.most], .agg #[.int .i64 x0, .int .i64 x1, .int .i64 x2, .int .i64 x3, .int .i64 x4, .int .i64 x5, .int .i64 x6, .int .i64 x7, .int .i64 x8, .int .i64 x9, .int .i64 x10, .int .i64 x11, .int .i64 x12, cv], .int .i64 self, .int .i64 services]) (body := _) 37 func95 rfl ntmps95 rfl ?_
 intro w0
 refine J.seq <| J.region <| O.l (Lo.box [.int .i64 c.to, .int .i64 c.tier, .int .i64 c.weight, .int .i64 c.most] rfl rfl) rfl ?_
 rintro _ _ ⟨g1, rfl, rfl⟩
 refine O.one (Src.ro 0 rfl) (fun hV3 => ?_)
 refine O.l (Lo.box [.int .i64 x0, .int .i64 x1, .int .i64 x2, .int .i64 x3, .int .i64 x4, .int .i64 x5, .int .i64 x6, .int .i64 x7, .int .i64 x8, .int .i64 x9, .int .i64 x10, .int .i64 x11, .int .i64 x12, cv] rfl rfl) rfl ?_
 rintro _ _ ⟨g2, rfl, rfl⟩
 refine O.a rfl rfl <| O.nil <| J.seq <| J.region <| O.p (Pu.fieldAddr (off' := 0) runUnderlying50 rfl sizeOf3 rfl rfl rfl) rfl <| O.q (Qt.ld rfl (Cel.var 1 rfl) (o := 0) (off := 0) rfl (Cut.one isAgg3 rfl)) rfl <| O.m rfl rfl <| O.p (Pu.sub' rfl rfl (by first | omega | (simp only [List.length_append, List.length_cons, List.length_nil, List.length_set]; omega))) rfl <| O.l (Lo.call [.int .i64 c.to, .int .i64 0, .int .i64 (services - 1)] (by exact call57) rfl (cf_from c.to 0 (services - 1)) [] [0, 1] (by decide) rfl [var g2 [.int .i64 x0, .int .i64 x1, .int .i64 x2, .int .i64 x3, .int .i64 x4, .int .i64 x5, .int .i64 x6, .int .i64 x7, .int .i64 x8, .int .i64 x9, .int .i64 x10, .int .i64 x11, .int .i64 x12, cv] 47, var g1 [.int .i64 c.to, .int .i64 c.tier, .int .i64 c.weight, .int .i64 c.most] 50] rfl RoOk.nil) rfl ?_
 rintro _ _ ⟨_, ⟨rfl, rfl⟩, rfl⟩
 refine O.m rfl rfl ?_
 refine by_bool (Cf.from_ c.to 0 (services - 1)) (fun h5 => ?_) (fun h5 => ?_)
 ·
  refine O.gq (t := 14) rfl rfl h5 rfl (Pu.qt (Pu.fieldAddr (off' := 0) runUnderlying50 rfl sizeOf3 rfl rfl rfl)) rfl <| O.gq (t := 14) rfl rfl h5 rfl (Qt.ld rfl (Cel.var 1 rfl) (o := 0) (off := 0) rfl (Cut.one isAgg3 rfl)) rfl <| O.gq (t := 14) rfl rfl h5 rfl (Pu.qt (Pu.move rfl)) rfl <| O.gq (t := 14) rfl rfl h5 rfl (Pu.qt (Pu.neq rfl rfl)) rfl <| O.p (Pu.pickT rfl h5 rfl) rfl <| O.m rfl rfl ?_
  refine by_bool (decide (c.to ≠ self)) (fun h6 => ?_) (fun h6 => ?_)
  ·
   have p7 := of_decide_eq_true h6
   refine O.gq (t := 20) rfl rfl h6 rfl (Pu.qt (Pu.fieldAddr (off' := 1) runUnderlying50 rfl sizeOf3 rfl rfl rfl)) rfl <| O.gq (t := 20) rfl rfl h6 rfl (Qt.ld rfl (Cel.var 1 rfl) (o := 0) (off := 1) rfl (Cut.one isAgg3 rfl)) rfl <| O.gq (t := 20) rfl rfl h6 rfl (Pu.qt (Pu.fieldAddr (off' := 3) runUnderlying47 rfl sizeOf3 rfl rfl rfl)) rfl <| O.gq (t := 20) rfl rfl h6 rfl (Qt.ld rfl (Cel.var 0 rfl) (o := 0) (off := 3) rfl (Cut.one isAgg3 rfl)) rfl <| O.gl (t := 20) rfl rfl h6 rfl (Lo.call [.int .i64 c.tier, .int .i64 0, .int .i64 x3] (by exact call57) rfl (cf_from c.tier 0 x3) [] [0, 1] (by decide) rfl [var g2 [.int .i64 x0, .int .i64 x1, .int .i64 x2, .int .i64 x3, .int .i64 x4, .int .i64 x5, .int .i64 x6, .int .i64 x7, .int .i64 x8, .int .i64 x9, .int .i64 x10, .int .i64 x11, .int .i64 x12, cv] 47, var g1 [.int .i64 c.to, .int .i64 c.tier, .int .i64 c.weight, .int .i64 c.most] 50] rfl RoOk.nil) rfl ?_
   rintro _ _ ⟨_, ⟨rfl, rfl⟩, rfl⟩
   refine O.p (Pu.pickT rfl h6 rfl) rfl <| O.m rfl rfl ?_
   refine by_bool (Cf.from_ c.tier 0 x3) (fun h9 => ?_) (fun h9 => ?_)
   ·
    refine O.gq (t := 27) rfl rfl h9 rfl (Pu.qt (Pu.fieldAddr (off' := 2) runUnderlying50 rfl sizeOf3 rfl rfl rfl)) rfl <| O.gq (t := 27) rfl rfl h9 rfl (Qt.ld rfl (Cel.var 1 rfl) (o := 0) (off := 2) rfl (Cut.one isAgg3 rfl)) rfl <| O.gl (t := 27) rfl rfl h9 rfl (Lo.call [.int .i64 c.weight, .int .i64 1, .int .i64 8] (by exact call57) rfl (cf_from c.weight 1 8) [] [0, 1] (by decide) rfl [var g2 [.int .i64 x0, .int .i64 x1, .int .i64 x2, .int .i64 x3, .int .i64 x4, .int .i64 x5, .int .i64 x6, .int .i64 x7, .int .i64 x8, .int .i64 x9, .int .i64 x10, .int .i64 x11, .int .i64 x12, cv] 47, var g1 [.int .i64 c.to, .int .i64 c.tier, .int .i64 c.weight, .int .i64 c.most] 50] rfl RoOk.nil) rfl ?_
    rintro _ _ ⟨_, ⟨rfl, rfl⟩, rfl⟩
    refine O.p (Pu.pickT rfl h9 rfl) rfl <| O.m rfl rfl ?_
    refine by_bool (Cf.from_ c.weight 1 8) (fun h11 => ?_) (fun h11 => ?_)
    ·
     refine O.gq (t := 32) rfl rfl h11 rfl (Pu.qt (Pu.fieldAddr (off' := 3) runUnderlying50 rfl sizeOf3 rfl rfl rfl)) rfl <| O.gq (t := 32) rfl rfl h11 rfl (Qt.ld rfl (Cel.var 1 rfl) (o := 0) (off := 3) rfl (Cut.one isAgg3 rfl)) rfl <| O.gl (t := 32) rfl rfl h11 rfl (Lo.call [.int .i64 c.most, .int .i64 1, .int .i64 65535] (by exact call57) rfl (cf_from c.most 1 65535) [] [0, 1] (by decide) rfl [var g2 [.int .i64 x0, .int .i64 x1, .int .i64 x2, .int .i64 x3, .int .i64 x4, .int .i64 x5, .int .i64 x6, .int .i64 x7, .int .i64 x8, .int .i64 x9, .int .i64 x10, .int .i64 x11, .int .i64 x12, cv] 47, var g1 [.int .i64 c.to, .int .i64 c.tier, .int .i64 c.weight, .int .i64 c.most] 50] rfl RoOk.nil) rfl ?_
     rintro _ _ ⟨_, ⟨rfl, rfl⟩, rfl⟩
     refine O.p (Pu.pickT rfl h11 rfl) rfl <| O.a rfl rfl <| O.nil ?_
     exact J.ret (Fin.ret (rs := [.tmp 8]) rfl [_] ⟨rfl, trivial⟩ [] (by decide) [] rfl ⟨(by first | (simp only [vOf, Cf.right, *, Bool.true_and, Bool.false_and, Bool.and_true, Bool.and_false, decide_true, decide_false, Bool.not_true, Bool.not_false, ne_eq, decide_not]; done) | (have h_ := Decidable.not_not.1 (by assumption : ¬ c.to ≠ self); simp only [vOf, Cf.right, h_, *, Bool.true_and, Bool.false_and, Bool.and_true, Bool.and_false, decide_true, decide_false, Bool.not_true, Bool.not_false])), rfl⟩)
    ·
     refine O.gskip (t := 32) rfl rfl (no_bool (by rw [h11]; decide)) rfl rfl <| O.gskip (t := 32) rfl rfl (no_bool (by rw [h11]; decide)) rfl rfl <| O.gskip (t := 32) rfl rfl (no_bool (by rw [h11]; decide)) rfl rfl <| O.p (Pu.pickF rfl h11 rfl) rfl <| O.a rfl rfl <| O.nil ?_
     exact J.ret (Fin.ret (rs := [.tmp 8]) rfl [_] ⟨rfl, trivial⟩ [] (by decide) [] rfl ⟨(by first | (simp only [vOf, Cf.right, *, Bool.true_and, Bool.false_and, Bool.and_true, Bool.and_false, decide_true, decide_false, Bool.not_true, Bool.not_false, ne_eq, decide_not]; done) | (have h_ := Decidable.not_not.1 (by assumption : ¬ c.to ≠ self); simp only [vOf, Cf.right, h_, *, Bool.true_and, Bool.false_and, Bool.and_true, Bool.and_false, decide_true, decide_false, Bool.not_true, Bool.not_false])), rfl⟩)
   ·
    refine O.gskip (t := 27) rfl rfl (no_bool (by rw [h9]; decide)) rfl rfl <| O.gskip (t := 27) rfl rfl (no_bool (by rw [h9]; decide)) rfl rfl <| O.gskip (t := 27) rfl rfl (no_bool (by rw [h9]; decide)) rfl rfl <| O.p (Pu.pickF rfl h9 rfl) rfl <| O.m rfl rfl <| O.gskip (t := 32) rfl rfl (no_bool (by decide)) rfl rfl <| O.gskip (t := 32) rfl rfl (no_bool (by decide)) rfl rfl <| O.gskip (t := 32) rfl rfl (no_bool (by decide)) rfl rfl <| O.p (Pu.pickF rfl rfl rfl) rfl <| O.a rfl rfl <| O.nil ?_
    exact J.ret (Fin.ret (rs := [.tmp 8]) rfl [_] ⟨rfl, trivial⟩ [] (by decide) [] rfl ⟨(by first | (simp only [vOf, Cf.right, *, Bool.true_and, Bool.false_and, Bool.and_true, Bool.and_false, decide_true, decide_false, Bool.not_true, Bool.not_false, ne_eq, decide_not]; done) | (have h_ := Decidable.not_not.1 (by assumption : ¬ c.to ≠ self); simp only [vOf, Cf.right, h_, *, Bool.true_and, Bool.false_and, Bool.and_true, Bool.and_false, decide_true, decide_false, Bool.not_true, Bool.not_false])), rfl⟩)
  ·
   have p13 := of_decide_eq_false h6
   refine O.gskip (t := 20) rfl rfl (no_bool (by rw [h6]; decide)) rfl rfl <| O.gskip (t := 20) rfl rfl (no_bool (by rw [h6]; decide)) rfl rfl <| O.gskip (t := 20) rfl rfl (no_bool (by rw [h6]; decide)) rfl rfl <| O.gskip (t := 20) rfl rfl (no_bool (by rw [h6]; decide)) rfl rfl <| O.gskip (t := 20) rfl rfl (no_bool (by rw [h6]; decide)) rfl rfl <| O.p (Pu.pickF rfl h6 rfl) rfl <| O.m rfl rfl <| O.gskip (t := 27) rfl rfl (no_bool (by decide)) rfl rfl <| O.gskip (t := 27) rfl rfl (no_bool (by decide)) rfl rfl <| O.gskip (t := 27) rfl rfl (no_bool (by decide)) rfl rfl <| O.p (Pu.pickF rfl rfl rfl) rfl <| O.m rfl rfl ?_
   refine O.gskip (t := 32) rfl rfl (no_bool (by decide)) rfl rfl <| O.gskip (t := 32) rfl rfl (no_bool (by decide)) rfl rfl <| O.gskip (t := 32) rfl rfl (no_bool (by decide)) rfl rfl <| O.p (Pu.pickF rfl rfl rfl) rfl <| O.a rfl rfl <| O.nil ?_
   exact J.ret (Fin.ret (rs := [.tmp 8]) rfl [_] ⟨rfl, trivial⟩ [] (by decide) [] rfl ⟨(by first | (simp only [vOf, Cf.right, *, Bool.true_and, Bool.false_and, Bool.and_true, Bool.and_false, decide_true, decide_false, Bool.not_true, Bool.not_false, ne_eq, decide_not]; done) | (have h_ := Decidable.not_not.1 (by assumption : ¬ c.to ≠ self); simp only [vOf, Cf.right, h_, *, Bool.true_and, Bool.false_and, Bool.and_true, Bool.and_false, decide_true, decide_false, Bool.not_true, Bool.not_false])), rfl⟩)
 ·
  refine O.gskip (t := 14) rfl rfl (no_bool (by rw [h5]; decide)) rfl rfl <| O.gskip (t := 14) rfl rfl (no_bool (by rw [h5]; decide)) rfl rfl <| O.gskip (t := 14) rfl rfl (no_bool (by rw [h5]; decide)) rfl rfl <| O.gskip (t := 14) rfl rfl (no_bool (by rw [h5]; decide)) rfl rfl <| O.p (Pu.pickF rfl h5 rfl) rfl <| O.m rfl rfl <| O.gskip (t := 20) rfl rfl (no_bool (by decide)) rfl rfl <| O.gskip (t := 20) rfl rfl (no_bool (by decide)) rfl rfl <| O.gskip (t := 20) rfl rfl (no_bool (by decide)) rfl rfl <| O.gskip (t := 20) rfl rfl (no_bool (by decide)) rfl rfl <| O.gskip (t := 20) rfl rfl (no_bool (by decide)) rfl rfl <| O.p (Pu.pickF rfl rfl rfl) rfl ?_
  refine O.m rfl rfl <| O.gskip (t := 27) rfl rfl (no_bool (by decide)) rfl rfl <| O.gskip (t := 27) rfl rfl (no_bool (by decide)) rfl rfl <| O.gskip (t := 27) rfl rfl (no_bool (by decide)) rfl rfl <| O.p (Pu.pickF rfl rfl rfl) rfl <| O.m rfl rfl <| O.gskip (t := 32) rfl rfl (no_bool (by decide)) rfl rfl <| O.gskip (t := 32) rfl rfl (no_bool (by decide)) rfl rfl <| O.gskip (t := 32) rfl rfl (no_bool (by decide)) rfl rfl <| O.p (Pu.pickF rfl rfl rfl) rfl <| O.a rfl rfl <| O.nil ?_
  exact J.ret (Fin.ret (rs := [.tmp 8]) rfl [_] ⟨rfl, trivial⟩ [] (by decide) [] rfl ⟨(by first | (simp only [vOf, Cf.right, *, Bool.true_and, Bool.false_and, Bool.and_true, Bool.and_false, decide_true, decide_false, Bool.not_true, Bool.not_false, ne_eq, decide_not]; done) | (have h_ := Decidable.not_not.1 (by assumption : ¬ c.to ≠ self); simp only [vOf, Cf.right, h_, *, Bool.true_and, Bool.false_and, Bool.and_true, Bool.and_false, decide_true, decide_false, Bool.not_true, Bool.not_false])), rfl⟩)

set_option maxRecDepth 100000 in
theorem cf_calls1 (d : Cl) (g : Nat) (c : Cl) : Tri prog 94 #[.agg #[.int .i64 d.to, .int .i64 d.tier, .int .i64 d.weight, .int .i64 d.most], .pointer (some ⟨g, 0, none⟩)] [var g [.int .i64 c.to, .int .i64 c.tier, .int .i64 c.weight, .int .i64 c.most] 50] [] (fun v L' => v = .bool (decide (d.to = c.to)) ∧ L' = []) := by
 refine Tri.enter (args := [.agg #[.int .i64 d.to, .int .i64 d.tier, .int .i64 d.weight, .int .i64 d.most], .pointer (some ⟨g, 0, none⟩)]) (body := _) 9 func94 rfl ntmps94 rfl ?_
 intro w0
 refine J.seq <| J.region <| O.l (Lo.box [.int .i64 d.to, .int .i64 d.tier, .int .i64 d.weight, .int .i64 d.most] rfl rfl) rfl ?_
 rintro _ _ ⟨g1, rfl, rfl⟩
 refine O.a rfl rfl <| O.nil <| J.seq <| J.region <| O.p (Pu.fieldAddr (off' := 0) runUnderlying50 rfl sizeOf3 rfl rfl rfl) rfl <| O.q (Qt.ld rfl (Cel.var 0 rfl) (o := 0) (off := 0) rfl (Cut.one isAgg3 rfl)) rfl <| O.p (Pu.fieldAddr (off' := 0) runUnderlying50 rfl sizeOf3 rfl rfl rfl) rfl <| O.q (Qt.ld rfl (Cel.roVar 0 rfl) (o := 0) (off := 0) rfl (Cut.one isAgg3 rfl)) rfl <| O.p (Pu.eql rfl rfl) rfl <| O.a rfl rfl <| O.nil ?_
 exact J.ret (Fin.ret (rs := [.tmp 3]) rfl [_] ⟨rfl, trivial⟩ [] (by decide) [] rfl ⟨rfl, rfl⟩)

set_option maxRecDepth 100000 in
theorem sl_IndexFunc (fid : Nat) (caps : List Value) (p : Cl → Bool) (RoF : List Sp) (lv : Value) (l : List Cl) (hc : ∀ args w, (callFunc fid args).run prog w = .ok (.enter fid args) w) (hF : ∀ e : Cl, Tri prog fid (([.agg (Cl.cells e).toArray] : List Value) ++ caps).toArray RoF [] (fun v L' => v = .bool (p e) ∧ L' = [])) (hl : l.length ≤ 100000) : Tri prog 117 #[lv, (.func (.func fid) #[] caps.toArray)] (rd lv 4 (l.map Cl.cells) :: RoF) [] (fun v L' => v = .int .i64 (Cf.indexF p l) ∧ L' = []) := by
 refine Tri.enter (args := [lv, (.func (.func fid) #[] caps.toArray)]) (body := _) 19 func117 rfl ntmps117 rfl ?_
 intro w0
 refine J.seq <| J.region <| O.a rfl rfl <| O.nil <| J.seq <| J.seq <| J.region <| O.m rfl rfl <| O.q (Qt.lenM runUnderlying45 rfl (Src.ro 0 rfl)) rfl <| O.m rfl rfl <| O.nil <| J.block ?_
 refine J.loop (X := Nat) (fun ξ => ξ ≤ l.length ∧ ∀ j x, j < ξ → l[j]? = some x → p x = false) (fun ξ => [(0, lv), (1, (.func (.func fid) #[] caps.toArray)), (7, .int .i64 (l.length : Int)), (8, .int .i64 (ξ : Int))]) (fun ξ => []) (fun ξ => l.length - ξ) 0 (show 0 ≤ l.length ∧ ∀ j x, j < 0 → l[j]? = some x → p x = false from ⟨by omega, fun j x h => by omega⟩) ⟨rfl, rfl, rfl, (congrArg (fun z => some (Value.int .i64 z)) (by first | rfl | omega : (0 : Int) = (0 : Int))), trivial⟩ [] (by decide) rfl ?_
 rintro k hq1
 obtain ⟨hk, hno⟩ : k ≤ l.length ∧ ∀ j x, j < k → l[j]? = some x → p x = false := hq1
 show J _ _ [(0, lv), (1, (.func (.func fid) #[] caps.toArray)), (7, .int .i64 (l.length : Int)), (8, .int .i64 (k : Int))] []
 refine J.seq <| J.region <| O.p (Pu.lss rfl rfl) rfl <| O.nil <| J.seq ?_
 refine J.cond rfl (fun h2 => ?_) (fun h2 => ?_)
 ·
  have p3 := of_decide_eq_true h2
  refine J.skip <| J.seq <| J.block <| J.seq <| J.region <| O.m rfl rfl <| O.a rfl rfl <| O.nil <| J.seq <| J.region <| O.m rfl rfl <| O.m rfl rfl ?_
  refine O.m rfl rfl ?_
  obtain ⟨e4, he4⟩ : ∃ x_, l[k]? = some x_ := ⟨_, List.getElem?_eq_getElem (by first | omega | (simp only [List.length_append, List.length_cons, List.length_nil, List.length_set]; omega))⟩
  refine O.q (Qt.idxM runUnderlying45 sizeOf50 rfl (Src.ro 0 rfl) rfl (by first | omega | (simp only [List.length_append, List.length_cons, List.length_nil, List.length_set]; omega)) (by first | omega | (simp only [List.length_append, List.length_cons, List.length_nil, List.length_set]; omega))) rfl <| O.q (Qt.ld rfl (Cel.eltM (Src.ro 0 rfl) he4) (o := (voff lv + k * 4)) (off := 0) (by omega) (Cut.agg [.int .i64 e4.to, .int .i64 e4.tier, .int .i64 e4.weight, .int .i64 e4.most] isAgg50 sizeOf50 rfl rfl)) rfl <| O.l (Lo.callV (vs := [.agg #[.int .i64 e4.to, .int .i64 e4.tier, .int .i64 e4.weight, .int .i64 e4.most]]) (caps := caps) hc rfl rfl (hF e4) [] [] (by decide) rfl [] rfl (RoOk.sub (fun _ hA => List.mem_cons_of_mem _ hA) [] rfl)) rfl ?_
  rintro _ _ ⟨_, ⟨rfl, rfl⟩, rfl⟩
  refine O.nil ?_
  refine J.cond rfl (fun h6 => ?_) (fun h6 => ?_)
  ·
   refine J.seq <| J.region <| O.m rfl rfl <| O.a rfl rfl <| O.nil ?_
   exact J.ret (Fin.ret (rs := [.tmp 4]) rfl [_] ⟨rfl, trivial⟩ [] (by decide) [] rfl ⟨(by rw [Cf.indexF_at hno he4 ‹_›]; rfl), rfl⟩)
  ·
   refine J.skip <| J.blk <| J.region <| O.p (Pu.add' rfl rfl (by first | omega | (simp only [List.length_append, List.length_cons, List.length_nil, List.length_set]; omega))) rfl <| O.m rfl rfl <| O.nil ?_
   exact J.lp (k + 1) (show (k + 1) ≤ l.length ∧ ∀ j x, j < (k + 1) → l[j]? = some x → p x = false from ⟨by omega, none_step hno he4 ‹_›⟩) (show l.length - (k + 1) < l.length - k from (by first | omega | (simp only [List.length_append, List.length_cons, List.length_nil, List.length_set]; omega))) ⟨rfl, rfl, rfl, (congrArg (fun z => some (Value.int .i64 z)) (by first | rfl | omega : ((k : Int) + 1 : Int) = ((k + 1) : Int))), trivial⟩ [] (by decide) rfl
 ·
  have p7 := of_decide_eq_false h2
  refine J.exit _ rfl <| J.seq <| J.region <| O.a rfl rfl <| O.nil ?_
  exact J.ret (Fin.ret (rs := [.tmp 4]) rfl [_] ⟨rfl, trivial⟩ [] (by decide) [] rfl ⟨(by rw [Cf.indexF_no hno (by omega)]; rfl), rfl⟩)

set_option maxRecDepth 100000 in
theorem sl_ContainsFunc (fid : Nat) (caps : List Value) (p : Cl → Bool) (RoF : List Sp) (lv : Value) (l : List Cl) (hc : ∀ args w, (callFunc fid args).run prog w = .ok (.enter fid args) w) (hF : ∀ e : Cl, Tri prog fid (([.agg (Cl.cells e).toArray] : List Value) ++ caps).toArray RoF [] (fun v L' => v = .bool (p e) ∧ L' = [])) (hl : l.length ≤ 100000) : Tri prog 93 #[lv, (.func (.func fid) #[] caps.toArray)] (rd lv 4 (l.map Cl.cells) :: RoF) [] (fun v L' => v = .bool (l.any p) ∧ L' = []) := by
 refine Tri.enter (args := [lv, (.func (.func fid) #[] caps.toArray)]) (body := _) 9 func93 rfl ntmps93 rfl ?_
 intro w0
 refine J.seq <| J.region <| O.a rfl rfl <| O.nil <| J.seq <| J.region <| O.m rfl rfl <| O.m rfl rfl <| O.l (Lo.call [lv, (.func (.func fid) #[] caps.toArray)] (by exact call117) rfl (sl_IndexFunc fid caps p RoF lv l hc hF (by omega)) [] [] (by decide) rfl [] rfl (RoOk.ro 0 rfl [] rfl (RoOk.sub (fun _ hA => List.mem_cons_of_mem _ hA) [] rfl))) rfl ?_
 rintro _ _ ⟨_, ⟨rfl, rfl⟩, rfl⟩
 refine O.p (Pu.geq rfl rfl) rfl <| O.a rfl rfl <| O.nil ?_
 exact J.ret (Fin.ret (rs := [.tmp 4]) rfl [_] ⟨rfl, trivial⟩ [] (by decide) [] rfl ⟨congrArg Value.bool Cf.indexF_nn, rfl⟩)

set_option maxRecDepth 100000 in
theorem cf_calls (x0 x1 x2 x3 x4 x5 x6 x7 x8 x9 x10 x11 x12 : Int) (cv : Value) (cs : List Cl) (self services : Int) (h0 : -1000000 ≤ services) (h1 : services ≤ 1000000) (hl : cs.length ≤ 100000) : Tri prog 58 #[.agg #[.int .i64 x0, .int .i64 x1, .int .i64 x2, .int .i64 x3, .int .i64 x4, .int .i64 x5, .int .i64 x6, .int .i64 x7, .int .i64 x8, .int .i64 x9, .int .i64 x10, .int .i64 x11, .int .i64 x12, cv], .int .i64 self, .int .i64 services] [rd cv 4 (cs.map Cl.cells)] [] (fun v L' => v = .bool (Cf.callsOk cs x3 self services) ∧ L' = []) := by
 refine Tri.enter (args := [.agg #[.int .i64 x0, .int .i64 x1, .int .i64 x2, .int .i64 x3, .int .i64 x4, .int .i64 x5, .int .i64 x6, .int .i64 x7, .int .i64 x8, .int .i64 x9, .int .i64 x10, .int .i64 x11, .int .i64 x12, cv], .int .i64 self, .int .i64 services]) (body := _) 38 func58 rfl ntmps58 rfl ?_
 intro w0
 refine J.seq <| J.region ?_
 refine O.one (Src.ro 0 rfl) (fun hV2 => ?_)
 refine O.l (Lo.box [.int .i64 x0, .int .i64 x1, .int .i64 x2, .int .i64 x3, .int .i64 x4, .int .i64 x5, .int .i64 x6, .int .i64 x7, .int .i64 x8, .int .i64 x9, .int .i64 x10, .int .i64 x11, .int .i64 x12, cv] rfl rfl) rfl ?_
 rintro _ _ ⟨g1, rfl, rfl⟩
 refine O.a rfl rfl <| O.nil <| J.seq <| J.seq <| J.region <| O.p (Pu.fieldAddr (off' := 13) runUnderlying47 rfl sizeOf45 rfl rfl rfl) rfl <| O.q (Qt.ld rfl (Cel.var 0 rfl) (o := 0) (off := 13) rfl (Cut.one isAgg45 rfl)) rfl <| O.q (Qt.lenM runUnderlying45 rfl (Src.ro 0 rfl)) rfl <| O.p (Pu.gtr rfl rfl) rfl <| O.nil ?_
 refine J.cond rfl (fun h3 => ?_) (fun h3 => ?_)
 ·
  have p4 := of_decide_eq_true h3
  refine J.seq <| J.region <| O.a rfl rfl <| O.nil ?_
  exact J.ret (Fin.ret (rs := [.tmp 6]) rfl [_] ⟨rfl, trivial⟩ [] (by decide) [] rfl ⟨(by rw [Cf.callsOk_many (by omega)]; rfl), rfl⟩)
 ·
  have p5 := of_decide_eq_false h3
  refine J.skip <| J.seq <| J.seq <| J.region <| O.p (Pu.fieldAddr (off' := 13) runUnderlying47 rfl sizeOf45 rfl rfl rfl) rfl <| O.q (Qt.ld rfl (Cel.var 0 rfl) (o := 0) (off := 13) rfl (Cut.one isAgg45 rfl)) rfl <| O.q (Qt.lenM runUnderlying45 rfl (Src.ro 0 rfl)) rfl <| O.m rfl rfl <| O.nil <| J.block <| J.loop (X := Nat) (fun ξ => ξ ≤ cs.length ∧ Cf.okU cs x3 self services ξ = true) (fun ξ => [(1, .int .i64 self), (2, .int .i64 services), (3, .pointer (some ⟨g1, 0, none⟩)), (15, cv), (16, .int .i64 (cs.length : Int)), (17, .int .i64 (ξ : Int))]) (fun ξ => [var g1 [.int .i64 x0, .int .i64 x1, .int .i64 x2, .int .i64 x3, .int .i64 x4, .int .i64 x5, .int .i64 x6, .int .i64 x7, .int .i64 x8, .int .i64 x9, .int .i64 x10, .int .i64 x11, .int .i64 x12, cv] 47]) (fun ξ => cs.length - ξ) 0 (show 0 ≤ cs.length ∧ Cf.okU cs x3 self services 0 = true from ⟨by omega, rfl⟩) ⟨rfl, rfl, rfl, rfl, rfl, (congrArg (fun z => some (Value.int .i64 z)) (by first | rfl | omega : (0 : Int) = (0 : Int))), trivial⟩ [0] (by decide) rfl ?_
  rintro k hq6
  obtain ⟨hk, hok⟩ : k ≤ cs.length ∧ Cf.okU cs x3 self services k = true := hq6
  show J _ _ [(1, .int .i64 self), (2, .int .i64 services), (3, .pointer (some ⟨g1, 0, none⟩)), (15, cv), (16, .int .i64 (cs.length : Int)), (17, .int .i64 (k : Int))] [var g1 [.int .i64 x0, .int .i64 x1, .int .i64 x2, .int .i64 x3, .int .i64 x4, .int .i64 x5, .int .i64 x6, .int .i64 x7, .int .i64 x8, .int .i64 x9, .int .i64 x10, .int .i64 x11, .int .i64 x12, cv] 47]
  refine J.seq <| J.region <| O.p (Pu.lss rfl rfl) rfl <| O.nil <| J.seq ?_
  refine J.cond rfl (fun h7 => ?_) (fun h7 => ?_)
  ·
   have p8 := of_decide_eq_true h7
   refine J.skip <| J.seq <| J.block <| J.seq <| J.region <| O.m rfl rfl ?_
   obtain ⟨e9, he9⟩ : ∃ x_, cs[k]? = some x_ := ⟨_, List.getElem?_eq_getElem (by first | omega | (rw [List.length_take]; omega))⟩
   refine O.q (Qt.idxM runUnderlying45 sizeOf50 rfl (Src.ro 0 rfl) rfl (by first | omega | (rw [List.length_take]; omega)) (by first | omega | (rw [List.length_take]; omega))) rfl <| O.q (Qt.ld rfl (Cel.eltM (Src.ro 0 rfl) he9) (o := (voff cv + k * 4)) (off := 0) (by omega) (Cut.agg [.int .i64 e9.to, .int .i64 e9.tier, .int .i64 e9.weight, .int .i64 e9.most] isAgg50 sizeOf50 rfl rfl)) rfl <| O.l (Lo.alloc [.int .i64 0, .int .i64 0, .int .i64 0, .int .i64 0] (by exact zeroValue50) rfl) rfl ?_
   rintro _ _ ⟨g10, rfl, rfl⟩
   refine O.a rfl rfl <| O.l0 (Lo.store 0 (vs := [.int .i64 e9.to, .int .i64 e9.tier, .int .i64 e9.weight, .int .i64 e9.most]) [.int .i64 e9.to, .int .i64 e9.tier, .int .i64 e9.weight, .int .i64 e9.most] rfl rfl rfl (by exact sizeOf50) rfl rfl rfl rfl rfl) ?_
   rintro _ _ rfl
   refine O.nil <| J.seq <| J.region <| O.p (Pu.fieldAddr (off' := 13) runUnderlying47 rfl sizeOf45 rfl rfl rfl) rfl <| O.q (Qt.ld rfl (Cel.var 1 rfl) (o := 0) (off := 13) rfl (Cut.one isAgg45 rfl)) rfl <| O.m rfl rfl <| O.q (Qt.cutHead runUnderlying45 sizeOf50 rfl (Src.ro 0 rfl) rfl (by first | omega | (rw [List.length_take]; omega)) (by first | omega | (rw [List.length_take]; omega))) rfl <| O.p (Pu.makeFunc [.pointer (some ⟨g10, 0, none⟩)] rfl) rfl <| O.l (Lo.call [vcut cv 4 0 ((k : Int)).toNat, .func (.func 94) #[] #[.pointer (some ⟨g10, 0, none⟩)]] (by exact call93) rfl (sl_ContainsFunc 94 [.pointer (some ⟨g10, 0, none⟩)] (fun d => decide (d.to = e9.to)) [var g10 [.int .i64 e9.to, .int .i64 e9.tier, .int .i64 e9.weight, .int .i64 e9.most] 50] (vcut cv 4 0 ((k : Int)).toNat) (cs.take ((k : Int)).toNat) (by exact (by exact call94)) (fun e => cf_calls1 e g10 e9) (by rw [List.length_take]; omega)) [] [0, 1] (by decide) rfl [var g10 [.int .i64 e9.to, .int .i64 e9.tier, .int .i64 e9.weight, .int .i64 e9.most] 50, var g1 [.int .i64 x0, .int .i64 x1, .int .i64 x2, .int .i64 x3, .int .i64 x4, .int .i64 x5, .int .i64 x6, .int .i64 x7, .int .i64 x8, .int .i64 x9, .int .i64 x10, .int .i64 x11, .int .i64 x12, cv] 47] rfl (RoOk.roC 0 rfl (head_rd (by first | omega | (rw [List.length_take]; omega))) [] rfl (RoOk.of 0 rfl same_rd [] (by decide) rfl RoOk.nil))) rfl ?_
   rintro _ _ ⟨_, ⟨rfl, rfl⟩, rfl⟩
   refine O.a rfl rfl <| O.nil <| J.seq <| J.region <| O.m rfl rfl <| O.m rfl rfl ?_
   refine by_bool ((cs.take ((k : Int)).toNat).any (fun d => decide (d.to = e9.to))) (fun h12 => ?_) (fun h12 => ?_)
   ·
    refine O.gskip (t := 29) rfl rfl (no_bool (by rw [h12]; decide)) rfl rfl <| O.gskip (t := 29) rfl rfl (no_bool (by rw [h12]; decide)) rfl rfl <| O.gskip (t := 29) rfl rfl (no_bool (by rw [h12]; decide)) rfl rfl <| O.gskip (t := 29) rfl rfl (no_bool (by rw [h12]; decide)) rfl rfl <| O.gskip (t := 29) rfl rfl (no_bool (by rw [h12]; decide)) rfl rfl <| O.gskip (t := 29) rfl rfl (no_bool (by rw [h12]; decide)) rfl rfl <| O.p (Pu.pickT rfl h12 rfl) rfl <| O.nil <| J.condT rfl rfl <| J.seq <| J.region <| O.a rfl rfl ?_
    refine O.nil ?_
    exact J.ret (Fin.ret (rs := [.tmp 6]) rfl [_] ⟨rfl, trivial⟩ [] (by decide) [] rfl ⟨(by rw [Cf.callsOk_bad he9 (by first | exact .inl ‹_› | exact .inr ‹_›)]; rfl), rfl⟩)
   ·
    refine O.gq (t := 29) rfl rfl h12 rfl (Qt.ld rfl (Cel.var 0 rfl) (o := 0) (off := 0) rfl (Cut.agg [.int .i64 e9.to, .int .i64 e9.tier, .int .i64 e9.weight, .int .i64 e9.most] isAgg50 sizeOf50 rfl rfl)) rfl <| O.gq (t := 29) rfl rfl h12 rfl (Qt.ld rfl (Cel.var 1 rfl) (o := 0) (off := 0) rfl (Cut.agg [.int .i64 x0, .int .i64 x1, .int .i64 x2, .int .i64 x3, .int .i64 x4, .int .i64 x5, .int .i64 x6, .int .i64 x7, .int .i64 x8, .int .i64 x9, .int .i64 x10, .int .i64 x11, .int .i64 x12, cv] isAgg47 sizeOf47 rfl rfl)) rfl <| O.gq (t := 29) rfl rfl h12 rfl (Pu.qt (Pu.move rfl)) rfl <| O.gq (t := 29) rfl rfl h12 rfl (Pu.qt (Pu.move rfl)) rfl <| O.gl (t := 29) rfl rfl h12 rfl (Lo.call [.agg #[.int .i64 e9.to, .int .i64 e9.tier, .int .i64 e9.weight, .int .i64 e9.most], .agg #[.int .i64 x0, .int .i64 x1, .int .i64 x2, .int .i64 x3, .int .i64 x4, .int .i64 x5, .int .i64 x6, .int .i64 x7, .int .i64 x8, .int .i64 x9, .int .i64 x10, .int .i64 x11, .int .i64 x12, cv], .int .i64 self, .int .i64 services] (by exact call95) rfl (cf_right e9 x0 x1 x2 x3 x4 x5 x6 x7 x8 x9 x10 x11 x12 cv cs self services h0 h1) [] [0, 1] (by decide) rfl [var g10 [.int .i64 e9.to, .int .i64 e9.tier, .int .i64 e9.weight, .int .i64 e9.most] 50, var g1 [.int .i64 x0, .int .i64 x1, .int .i64 x2, .int .i64 x3, .int .i64 x4, .int .i64 x5, .int .i64 x6, .int .i64 x7, .int .i64 x8, .int .i64 x9, .int .i64 x10, .int .i64 x11, .int .i64 x12, cv] 47] rfl (RoOk.ro 0 rfl [] rfl RoOk.nil)) rfl ?_
    rintro _ _ ⟨_, ⟨rfl, rfl⟩, rfl⟩
    refine O.gq (t := 29) rfl rfl h12 rfl (Pu.qt (Pu.not rfl)) rfl <| O.p (Pu.pickF rfl h12 rfl) rfl <| O.nil ?_
    refine J.cond rfl (fun h14 => ?_) (fun h14 => ?_)
    ·
     have h15 : (Cf.right e9 x3 self services) = false := not_flip h14
     refine J.seq <| J.region <| O.a rfl rfl <| O.nil ?_
     exact J.ret (Fin.ret (rs := [.tmp 6]) rfl [_] ⟨rfl, trivial⟩ [] (by decide) [] rfl ⟨(by rw [Cf.callsOk_bad he9 (by first | exact .inl ‹_› | exact .inr ‹_›)]; rfl), rfl⟩)
    ·
     have h16 : (Cf.right e9 x3 self services) = true := not_flip h14
     refine J.skip <| J.blk <| J.region <| O.p (Pu.add' rfl rfl (by first | omega | (simp only [List.length_append, List.length_cons, List.length_nil, List.length_set]; omega))) rfl <| O.m rfl rfl <| O.nil ?_
     exact J.lp (k + 1) (show (k + 1) ≤ cs.length ∧ Cf.okU cs x3 self services (k + 1) = true from ⟨by omega, Cf.okU_next hok he9 ‹_› ‹_›⟩) (show cs.length - (k + 1) < cs.length - k from (by first | omega | (rw [List.length_take]; omega))) ⟨rfl, rfl, rfl, rfl, rfl, (congrArg (fun z => some (Value.int .i64 z)) (by first | rfl | omega : ((k : Int) + 1 : Int) = ((k + 1) : Int))), trivial⟩ [1] (by decide) rfl
  ·
   have p17 := of_decide_eq_false h7
   refine J.exit _ rfl <| J.seq <| J.region <| O.a rfl rfl <| O.nil ?_
   exact J.ret (Fin.ret (rs := [.tmp 6]) rfl [_] ⟨rfl, trivial⟩ [] (by decide) [] rfl ⟨(by rw [Cf.callsOk_all hok (by omega) hk (by omega)]; rfl), rfl⟩)

set_option maxRecDepth 100000 in
set_option maxHeartbeats 4000000 in
theorem cf_Check (x0 x1 x2 x3 x4 x5 x6 x7 x8 x9 x10 x11 x12 : Int) (cv : Value) (cs : List Cl) (self services levels : Int) (hl : cs.length ≤ 100000) : Tri prog 26 #[.agg #[.int .i64 x0, .int .i64 x1, .int .i64 x2, .int .i64 x3, .int .i64 x4, .int .i64 x5, .int .i64 x6, .int .i64 x7, .int .i64 x8, .int .i64 x9, .int .i64 x10, .int .i64 x11, .int .i64 x12, cv], .int .i64 self, .int .i64 services, .int .i64 levels] [rd cv 4 (cs.map Cl.cells)] [] (fun v L' => v = .int .i64 (Cf.check [x0, x1, x2, x3, x4, x5, x6, x7, x8, x9, x10, x11, x12] cs self services levels) ∧ L' = []) := by
 refine Tri.enter (args := [.agg #[.int .i64 x0, .int .i64 x1, .int .i64 x2, .int .i64 x3, .int .i64 x4, .int .i64 x5, .int .i64 x6, .int .i64 x7, .int .i64 x8, .int .i64 x9, .int .i64 x10, .int .i64 x11, .int .i64 x12, cv], .int .i64 self, .int .i64 services, .int .i64 levels]) (body := _) 66 func26 rfl ntmps26 rfl ?_
 intro w0
 refine J.seq <| J.region ?_
 refine O.one (Src.ro 0 rfl) (fun hV2 => ?_)
 refine O.l (Lo.box [.int .i64 x0, .int .i64 x1, .int .i64 x2, .int .i64 x3, .int .i64 x4, .int .i64 x5, .int .i64 x6, .int .i64 x7, .int .i64 x8, .int .i64 x9, .int .i64 x10, .int .i64 x11, .int .i64 x12, cv] rfl rfl) rfl ?_
 rintro _ _ ⟨g1, rfl, rfl⟩
 refine O.a rfl rfl <| O.nil <| J.seq <| J.region <| O.p (Pu.fieldAddr (off' := 0) runUnderlying47 rfl sizeOf3 rfl rfl rfl) rfl <| O.q (Qt.ld rfl (Cel.var 0 rfl) (o := 0) (off := 0) rfl (Cut.one isAgg3 rfl)) rfl <| O.l (Lo.call [.int .i64 x0, .int .i64 1, .int .i64 16] (by exact call57) rfl (cf_from x0 1 16) [] [0] (by decide) rfl [var g1 [.int .i64 x0, .int .i64 x1, .int .i64 x2, .int .i64 x3, .int .i64 x4, .int .i64 x5, .int .i64 x6, .int .i64 x7, .int .i64 x8, .int .i64 x9, .int .i64 x10, .int .i64 x11, .int .i64 x12, cv] 47] rfl RoOk.nil) rfl ?_
 rintro _ _ ⟨_, ⟨rfl, rfl⟩, rfl⟩
 refine O.m rfl rfl ?_
 refine by_bool (Cf.from_ x0 1 16) (fun h4 => ?_) (fun h4 => ?_)
 ·
  refine O.gq (t := 14) rfl rfl h4 rfl (Pu.qt (Pu.fieldAddr (off' := 1) runUnderlying47 rfl sizeOf3 rfl rfl rfl)) rfl <| O.gq (t := 14) rfl rfl h4 rfl (Qt.ld rfl (Cel.var 0 rfl) (o := 0) (off := 1) rfl (Cut.one isAgg3 rfl)) rfl <| O.gl (t := 14) rfl rfl h4 rfl (Lo.call [.int .i64 x1, .int .i64 1, .int .i64 64] (by exact call57) rfl (cf_from x1 1 64) [] [0] (by decide) rfl [var g1 [.int .i64 x0, .int .i64 x1, .int .i64 x2, .int .i64 x3, .int .i64 x4, .int .i64 x5, .int .i64 x6, .int .i64 x7, .int .i64 x8, .int .i64 x9, .int .i64 x10, .int .i64 x11, .int .i64 x12, cv] 47] rfl RoOk.nil) rfl ?_
  rintro _ _ ⟨_, ⟨rfl, rfl⟩, rfl⟩
  refine O.p (Pu.pickT rfl h4 rfl) rfl <| O.m rfl rfl ?_
  refine by_bool (Cf.from_ x1 1 64) (fun h6 => ?_) (fun h6 => ?_)
  ·
   refine O.gq (t := 19) rfl rfl h6 rfl (Pu.qt (Pu.fieldAddr (off' := 2) runUnderlying47 rfl sizeOf3 rfl rfl rfl)) rfl <| O.gq (t := 19) rfl rfl h6 rfl (Qt.ld rfl (Cel.var 0 rfl) (o := 0) (off := 2) rfl (Cut.one isAgg3 rfl)) rfl <| O.gl (t := 19) rfl rfl h6 rfl (Lo.call [.int .i64 x2, .int .i64 1, .int .i64 64] (by exact call57) rfl (cf_from x2 1 64) [] [0] (by decide) rfl [var g1 [.int .i64 x0, .int .i64 x1, .int .i64 x2, .int .i64 x3, .int .i64 x4, .int .i64 x5, .int .i64 x6, .int .i64 x7, .int .i64 x8, .int .i64 x9, .int .i64 x10, .int .i64 x11, .int .i64 x12, cv] 47] rfl RoOk.nil) rfl ?_
   rintro _ _ ⟨_, ⟨rfl, rfl⟩, rfl⟩
   refine O.p (Pu.pickT rfl h6 rfl) rfl <| O.m rfl rfl ?_
   refine by_bool (Cf.from_ x2 1 64) (fun h8 => ?_) (fun h8 => ?_)
   ·
    refine O.gq (t := 24) rfl rfl h8 rfl (Pu.qt (Pu.fieldAddr (off' := 3) runUnderlying47 rfl sizeOf3 rfl rfl rfl)) rfl <| O.gq (t := 24) rfl rfl h8 rfl (Qt.ld rfl (Cel.var 0 rfl) (o := 0) (off := 3) rfl (Cut.one isAgg3 rfl)) rfl <| O.gl (t := 24) rfl rfl h8 rfl (Lo.call [.int .i64 x3, .int .i64 0, .int .i64 7] (by exact call57) rfl (cf_from x3 0 7) [] [0] (by decide) rfl [var g1 [.int .i64 x0, .int .i64 x1, .int .i64 x2, .int .i64 x3, .int .i64 x4, .int .i64 x5, .int .i64 x6, .int .i64 x7, .int .i64 x8, .int .i64 x9, .int .i64 x10, .int .i64 x11, .int .i64 x12, cv] 47] rfl RoOk.nil) rfl ?_
    rintro _ _ ⟨_, ⟨rfl, rfl⟩, rfl⟩
    refine O.p (Pu.pickT rfl h8 rfl) rfl <| O.a rfl rfl <| O.nil <| J.seq <| J.region <| O.p (Pu.fieldAddr (off' := 4) runUnderlying47 rfl sizeOf3 rfl rfl rfl) rfl <| O.q (Qt.ld rfl (Cel.var 0 rfl) (o := 0) (off := 4) rfl (Cut.one isAgg3 rfl)) rfl <| O.l (Lo.call [.int .i64 x4, .int .i64 0, .int .i64 256] (by exact call57) rfl (cf_from x4 0 256) [] [0] (by decide) rfl [var g1 [.int .i64 x0, .int .i64 x1, .int .i64 x2, .int .i64 x3, .int .i64 x4, .int .i64 x5, .int .i64 x6, .int .i64 x7, .int .i64 x8, .int .i64 x9, .int .i64 x10, .int .i64 x11, .int .i64 x12, cv] 47] rfl RoOk.nil) rfl ?_
    rintro _ _ ⟨_, ⟨rfl, rfl⟩, rfl⟩
    refine O.m rfl rfl ?_
    refine by_bool (Cf.from_ x4 0 256) (fun h11 => ?_) (fun h11 => ?_)
    ·
     refine O.gq (t := 32) rfl rfl h11 rfl (Pu.qt (Pu.fieldAddr (off' := 5) runUnderlying47 rfl sizeOf3 rfl rfl rfl)) rfl <| O.gq (t := 32) rfl rfl h11 rfl (Qt.ld rfl (Cel.var 0 rfl) (o := 0) (off := 5) rfl (Cut.one isAgg3 rfl)) rfl <| O.gl (t := 32) rfl rfl h11 rfl (Lo.call [.int .i64 x5, .int .i64 0, .int .i64 1099511627776] (by exact call57) rfl (cf_from x5 0 1099511627776) [] [0] (by decide) rfl [var g1 [.int .i64 x0, .int .i64 x1, .int .i64 x2, .int .i64 x3, .int .i64 x4, .int .i64 x5, .int .i64 x6, .int .i64 x7, .int .i64 x8, .int .i64 x9, .int .i64 x10, .int .i64 x11, .int .i64 x12, cv] 47] rfl RoOk.nil) rfl ?_
     rintro _ _ ⟨_, ⟨rfl, rfl⟩, rfl⟩
     refine O.p (Pu.pickT rfl h11 rfl) rfl <| O.a rfl rfl <| O.nil <| J.seq <| J.seq <| J.region <| O.m rfl rfl <| O.l (Lo.call [.int .i64 services, .int .i64 1, .int .i64 8] (by exact call57) rfl (cf_from services 1 8) [] [0] (by decide) rfl [var g1 [.int .i64 x0, .int .i64 x1, .int .i64 x2, .int .i64 x3, .int .i64 x4, .int .i64 x5, .int .i64 x6, .int .i64 x7, .int .i64 x8, .int .i64 x9, .int .i64 x10, .int .i64 x11, .int .i64 x12, cv] 47] rfl RoOk.nil) rfl ?_
     rintro _ _ ⟨_, ⟨rfl, rfl⟩, rfl⟩
     refine O.p (Pu.not rfl) rfl <| O.m rfl rfl ?_
     refine by_bool (!(Cf.from_ services 1 8)) (fun h14 => ?_) (fun h14 => ?_)
     ·
      have h15 : (Cf.from_ services 1 8) = false := not_flip h14
      refine O.gskip (t := 40) rfl rfl (no_bool (by rw [h14]; decide)) rfl rfl <| O.gskip (t := 40) rfl rfl (no_bool (by rw [h14]; decide)) rfl rfl <| O.gskip (t := 40) rfl rfl (no_bool (by rw [h14]; decide)) rfl rfl <| O.gskip (t := 40) rfl rfl (no_bool (by rw [h14]; decide)) rfl rfl <| O.gskip (t := 40) rfl rfl (no_bool (by rw [h14]; decide)) rfl rfl <| O.p (Pu.pickT rfl h14 rfl) rfl <| O.m rfl rfl <| O.gskip (t := 47) rfl rfl (no_bool (by decide)) rfl rfl <| O.gskip (t := 47) rfl rfl (no_bool (by decide)) rfl rfl <| O.p (Pu.pickT rfl rfl rfl) rfl <| O.m rfl rfl <| O.gskip (t := 51) rfl rfl (no_bool (by decide)) rfl rfl ?_
      refine O.gskip (t := 51) rfl rfl (no_bool (by decide)) rfl rfl <| O.p (Pu.pickT rfl rfl rfl) rfl <| O.m rfl rfl <| O.gskip (t := 55) rfl rfl (no_bool (by decide)) rfl rfl <| O.gskip (t := 55) rfl rfl (no_bool (by decide)) rfl rfl <| O.gskip (t := 55) rfl rfl (no_bool (by decide)) rfl rfl <| O.gskip (t := 55) rfl rfl (no_bool (by decide)) rfl rfl <| O.gskip (t := 55) rfl rfl (no_bool (by decide)) rfl rfl <| O.p (Pu.pickT rfl rfl rfl) rfl <| O.nil <| J.condT rfl rfl <| J.seq ?_
      refine J.region <| O.a rfl rfl <| O.nil ?_
      exact J.ret (Fin.ret (rs := [.tmp 8]) rfl [_] ⟨rfl, trivial⟩ [] (by decide) [] rfl ⟨(by rw [Cf.check_no13 (by simp only [*, Bool.and_true, Bool.and_false, Bool.true_and, Bool.false_and])]; rfl), rfl⟩)
     ·
      have h16 : (Cf.from_ services 1 8) = true := not_flip h14
      refine O.gq (t := 40) rfl rfl h14 rfl (Pu.qt (Pu.move rfl)) rfl <| O.gq (t := 40) rfl rfl h14 rfl (Pu.qt (Pu.move rfl)) rfl <| O.gq (t := 40) rfl rfl h14 rfl (Pu.qt (Pu.sub' rfl rfl (by have h_ := Cf.from_bnd (by assumption : Cf.from_ services 1 8 = true); omega))) rfl <| O.gl (t := 40) rfl rfl h14 rfl (Lo.call [.int .i64 self, .int .i64 0, .int .i64 (services - 1)] (by exact call57) rfl (cf_from self 0 (services - 1)) [] [0] (by decide) rfl [var g1 [.int .i64 x0, .int .i64 x1, .int .i64 x2, .int .i64 x3, .int .i64 x4, .int .i64 x5, .int .i64 x6, .int .i64 x7, .int .i64 x8, .int .i64 x9, .int .i64 x10, .int .i64 x11, .int .i64 x12, cv] 47] rfl RoOk.nil) rfl ?_
      rintro _ _ ⟨_, ⟨rfl, rfl⟩, rfl⟩
      refine O.gq (t := 40) rfl rfl h14 rfl (Pu.qt (Pu.not rfl)) rfl <| O.p (Pu.pickF rfl h14 rfl) rfl <| O.m rfl rfl ?_
      refine by_bool (!(Cf.from_ self 0 (services - 1))) (fun h18 => ?_) (fun h18 => ?_)
      ·
       have h19 : (Cf.from_ self 0 (services - 1)) = false := not_flip h18
       refine O.gskip (t := 47) rfl rfl (no_bool (by rw [h18]; decide)) rfl rfl <| O.gskip (t := 47) rfl rfl (no_bool (by rw [h18]; decide)) rfl rfl <| O.p (Pu.pickT rfl h18 rfl) rfl <| O.m rfl rfl <| O.gskip (t := 51) rfl rfl (no_bool (by decide)) rfl rfl <| O.gskip (t := 51) rfl rfl (no_bool (by decide)) rfl rfl <| O.p (Pu.pickT rfl rfl rfl) rfl <| O.m rfl rfl <| O.gskip (t := 55) rfl rfl (no_bool (by decide)) rfl rfl <| O.gskip (t := 55) rfl rfl (no_bool (by decide)) rfl rfl <| O.gskip (t := 55) rfl rfl (no_bool (by decide)) rfl rfl <| O.gskip (t := 55) rfl rfl (no_bool (by decide)) rfl rfl ?_
       refine O.gskip (t := 55) rfl rfl (no_bool (by decide)) rfl rfl <| O.p (Pu.pickT rfl rfl rfl) rfl <| O.nil <| J.condT rfl rfl <| J.seq <| J.region <| O.a rfl rfl <| O.nil ?_
       exact J.ret (Fin.ret (rs := [.tmp 8]) rfl [_] ⟨rfl, trivial⟩ [] (by decide) [] rfl ⟨(by rw [Cf.check_no13 (by simp only [*, Bool.and_true, Bool.and_false, Bool.true_and, Bool.false_and])]; rfl), rfl⟩)
      ·
       have h20 : (Cf.from_ self 0 (services - 1)) = true := not_flip h18
       refine O.gq (t := 47) rfl rfl h18 rfl (Pu.qt (Pu.move rfl)) rfl <| O.gq (t := 47) rfl rfl h18 rfl (Pu.qt (Pu.not rfl)) rfl <| O.p (Pu.pickF rfl h18 rfl) rfl <| O.m rfl rfl ?_
       refine by_bool (!(Cf.from_ x3 0 7)) (fun h21 => ?_) (fun h21 => ?_)
       ·
        have h22 : (Cf.from_ x3 0 7) = false := not_flip h21
        refine O.gskip (t := 51) rfl rfl (no_bool (by rw [h21]; decide)) rfl rfl <| O.gskip (t := 51) rfl rfl (no_bool (by rw [h21]; decide)) rfl rfl <| O.p (Pu.pickT rfl h21 rfl) rfl <| O.m rfl rfl <| O.gskip (t := 55) rfl rfl (no_bool (by decide)) rfl rfl <| O.gskip (t := 55) rfl rfl (no_bool (by decide)) rfl rfl <| O.gskip (t := 55) rfl rfl (no_bool (by decide)) rfl rfl <| O.gskip (t := 55) rfl rfl (no_bool (by decide)) rfl rfl <| O.gskip (t := 55) rfl rfl (no_bool (by decide)) rfl rfl <| O.p (Pu.pickT rfl rfl rfl) rfl <| O.nil <| J.condT rfl rfl ?_
        refine J.seq <| J.region <| O.a rfl rfl <| O.nil ?_
        exact J.ret (Fin.ret (rs := [.tmp 8]) rfl [_] ⟨rfl, trivial⟩ [] (by decide) [] rfl ⟨(by rw [Cf.check_no13 (by simp only [*, Bool.and_true, Bool.and_false, Bool.true_and, Bool.false_and])]; rfl), rfl⟩)
       ·
        have h23 : (Cf.from_ x3 0 7) = true := not_flip h21
        refine O.gq (t := 51) rfl rfl h21 rfl (Pu.qt (Pu.move rfl)) rfl <| O.gq (t := 51) rfl rfl h21 rfl (Pu.qt (Pu.not rfl)) rfl <| O.p (Pu.pickF rfl h21 rfl) rfl <| O.m rfl rfl ?_
        refine by_bool (!(Cf.from_ x5 0 1099511627776)) (fun h24 => ?_) (fun h24 => ?_)
        ·
         have h25 : (Cf.from_ x5 0 1099511627776) = false := not_flip h24
         refine O.gskip (t := 55) rfl rfl (no_bool (by rw [h24]; decide)) rfl rfl <| O.gskip (t := 55) rfl rfl (no_bool (by rw [h24]; decide)) rfl rfl <| O.gskip (t := 55) rfl rfl (no_bool (by rw [h24]; decide)) rfl rfl <| O.gskip (t := 55) rfl rfl (no_bool (by rw [h24]; decide)) rfl rfl <| O.gskip (t := 55) rfl rfl (no_bool (by rw [h24]; decide)) rfl rfl <| O.p (Pu.pickT rfl h24 rfl) rfl <| O.nil <| J.condT rfl rfl <| J.seq <| J.region <| O.a rfl rfl <| O.nil ?_
         exact J.ret (Fin.ret (rs := [.tmp 8]) rfl [_] ⟨rfl, trivial⟩ [] (by decide) [] rfl ⟨(by rw [Cf.check_no13 (by simp only [*, Bool.and_true, Bool.and_false, Bool.true_and, Bool.false_and])]; rfl), rfl⟩)
        ·
         have h26 : (Cf.from_ x5 0 1099511627776) = true := not_flip h24
         refine O.gq (t := 55) rfl rfl h24 rfl (Qt.ld rfl (Cel.var 0 rfl) (o := 0) (off := 0) rfl (Cut.agg [.int .i64 x0, .int .i64 x1, .int .i64 x2, .int .i64 x3, .int .i64 x4, .int .i64 x5, .int .i64 x6, .int .i64 x7, .int .i64 x8, .int .i64 x9, .int .i64 x10, .int .i64 x11, .int .i64 x12, cv] isAgg47 sizeOf47 rfl rfl)) rfl <| O.gq (t := 55) rfl rfl h24 rfl (Pu.qt (Pu.move rfl)) rfl <| O.gq (t := 55) rfl rfl h24 rfl (Pu.qt (Pu.move rfl)) rfl <| O.gl (t := 55) rfl rfl h24 rfl (Lo.call [.agg #[.int .i64 x0, .int .i64 x1, .int .i64 x2, .int .i64 x3, .int .i64 x4, .int .i64 x5, .int .i64 x6, .int .i64 x7, .int .i64 x8, .int .i64 x9, .int .i64 x10, .int .i64 x11, .int .i64 x12, cv], .int .i64 self, .int .i64 services] (by exact call58) rfl (cf_calls x0 x1 x2 x3 x4 x5 x6 x7 x8 x9 x10 x11 x12 cv cs self services (by have h_ := Cf.from_bnd (by assumption : Cf.from_ services 1 8 = true); omega) (by have h_ := Cf.from_bnd (by assumption : Cf.from_ services 1 8 = true); omega) hl) [] [0] (by decide) rfl [var g1 [.int .i64 x0, .int .i64 x1, .int .i64 x2, .int .i64 x3, .int .i64 x4, .int .i64 x5, .int .i64 x6, .int .i64 x7, .int .i64 x8, .int .i64 x9, .int .i64 x10, .int .i64 x11, .int .i64 x12, cv] 47] rfl (RoOk.ro 0 rfl [] rfl RoOk.nil)) rfl ?_
         rintro _ _ ⟨_, ⟨rfl, rfl⟩, rfl⟩
         refine O.gq (t := 55) rfl rfl h24 rfl (Pu.qt (Pu.not rfl)) rfl <| O.p (Pu.pickF rfl h24 rfl) rfl <| O.nil ?_
         refine J.cond rfl (fun h28 => ?_) (fun h28 => ?_)
         ·
          have h29 : (Cf.callsOk cs x3 self services) = false := not_flip h28
          refine J.seq <| J.region <| O.a rfl rfl <| O.nil ?_
          exact J.ret (Fin.ret (rs := [.tmp 8]) rfl [_] ⟨rfl, trivial⟩ [] (by decide) [] rfl ⟨(by rw [Cf.check_no13 (by simp only [*, Bool.and_true, Bool.and_false, Bool.true_and, Bool.false_and])]; rfl), rfl⟩)
         ·
          have h30 : (Cf.callsOk cs x3 self services) = true := not_flip h28
          refine J.skip <| J.seq <| J.region <| O.p (Pu.fieldAddr (off' := 6) runUnderlying47 rfl sizeOf44 rfl rfl rfl) rfl <| O.q (Qt.ld rfl (Cel.var 0 rfl) (o := 0) (off := 6) rfl (Cut.agg [.int .i64 x6, .int .i64 x7, .int .i64 x8, .int .i64 x9, .int .i64 x10, .int .i64 x11, .int .i64 x12] isAgg44 sizeOf44 rfl rfl)) rfl <| O.m rfl rfl <| O.l (Lo.call [.agg #[.int .i64 x6, .int .i64 x7, .int .i64 x8, .int .i64 x9, .int .i64 x10, .int .i64 x11, .int .i64 x12], .int .i64 levels] (by exact call59) rfl (kn_Check x6 x7 x8 x9 x10 x11 x12 levels) [] [0] (by decide) rfl [var g1 [.int .i64 x0, .int .i64 x1, .int .i64 x2, .int .i64 x3, .int .i64 x4, .int .i64 x5, .int .i64 x6, .int .i64 x7, .int .i64 x8, .int .i64 x9, .int .i64 x10, .int .i64 x11, .int .i64 x12, cv] 47] rfl RoOk.nil) rfl ?_
          rintro _ _ ⟨_, ⟨rfl, rfl⟩, rfl⟩
          refine O.a rfl rfl <| O.nil ?_
          exact J.ret (Fin.ret (rs := [.tmp 8]) rfl [_] ⟨rfl, trivial⟩ [] (by decide) [] rfl ⟨(by rw [Cf.check_yes13 ‹_› ‹_› (by simp only [*, Bool.and_true]) ‹_›]; rfl), rfl⟩)
    ·
     refine O.gskip (t := 32) rfl rfl (no_bool (by rw [h11]; decide)) rfl rfl <| O.gskip (t := 32) rfl rfl (no_bool (by rw [h11]; decide)) rfl rfl <| O.gskip (t := 32) rfl rfl (no_bool (by rw [h11]; decide)) rfl rfl <| O.p (Pu.pickF rfl h11 rfl) rfl <| O.a rfl rfl <| O.nil <| J.seq <| J.seq <| J.region <| O.m rfl rfl <| O.l (Lo.call [.int .i64 services, .int .i64 1, .int .i64 8] (by exact call57) rfl (cf_from services 1 8) [] [0] (by decide) rfl [var g1 [.int .i64 x0, .int .i64 x1, .int .i64 x2, .int .i64 x3, .int .i64 x4, .int .i64 x5, .int .i64 x6, .int .i64 x7, .int .i64 x8, .int .i64 x9, .int .i64 x10, .int .i64 x11, .int .i64 x12, cv] 47] rfl RoOk.nil) rfl ?_
     rintro _ _ ⟨_, ⟨rfl, rfl⟩, rfl⟩
     refine O.p (Pu.not rfl) rfl <| O.m rfl rfl ?_
     refine by_bool (!(Cf.from_ services 1 8)) (fun h33 => ?_) (fun h33 => ?_)
     ·
      have h34 : (Cf.from_ services 1 8) = false := not_flip h33
      refine O.gskip (t := 40) rfl rfl (no_bool (by rw [h33]; decide)) rfl rfl <| O.gskip (t := 40) rfl rfl (no_bool (by rw [h33]; decide)) rfl rfl <| O.gskip (t := 40) rfl rfl (no_bool (by rw [h33]; decide)) rfl rfl <| O.gskip (t := 40) rfl rfl (no_bool (by rw [h33]; decide)) rfl rfl <| O.gskip (t := 40) rfl rfl (no_bool (by rw [h33]; decide)) rfl rfl <| O.p (Pu.pickT rfl h33 rfl) rfl <| O.m rfl rfl <| O.gskip (t := 47) rfl rfl (no_bool (by decide)) rfl rfl <| O.gskip (t := 47) rfl rfl (no_bool (by decide)) rfl rfl <| O.p (Pu.pickT rfl rfl rfl) rfl <| O.m rfl rfl <| O.gskip (t := 51) rfl rfl (no_bool (by decide)) rfl rfl ?_
      refine O.gskip (t := 51) rfl rfl (no_bool (by decide)) rfl rfl <| O.p (Pu.pickT rfl rfl rfl) rfl <| O.m rfl rfl <| O.gskip (t := 55) rfl rfl (no_bool (by decide)) rfl rfl <| O.gskip (t := 55) rfl rfl (no_bool (by decide)) rfl rfl <| O.gskip (t := 55) rfl rfl (no_bool (by decide)) rfl rfl <| O.gskip (t := 55) rfl rfl (no_bool (by decide)) rfl rfl <| O.gskip (t := 55) rfl rfl (no_bool (by decide)) rfl rfl <| O.p (Pu.pickT rfl rfl rfl) rfl <| O.nil <| J.condT rfl rfl <| J.seq ?_
      refine J.region <| O.a rfl rfl <| O.nil ?_
      exact J.ret (Fin.ret (rs := [.tmp 8]) rfl [_] ⟨rfl, trivial⟩ [] (by decide) [] rfl ⟨(by rw [Cf.check_no13 (by simp only [*, Bool.and_true, Bool.and_false, Bool.true_and, Bool.false_and])]; rfl), rfl⟩)
     ·
      have h35 : (Cf.from_ services 1 8) = true := not_flip h33
      refine O.gq (t := 40) rfl rfl h33 rfl (Pu.qt (Pu.move rfl)) rfl <| O.gq (t := 40) rfl rfl h33 rfl (Pu.qt (Pu.move rfl)) rfl <| O.gq (t := 40) rfl rfl h33 rfl (Pu.qt (Pu.sub' rfl rfl (by have h_ := Cf.from_bnd (by assumption : Cf.from_ services 1 8 = true); omega))) rfl <| O.gl (t := 40) rfl rfl h33 rfl (Lo.call [.int .i64 self, .int .i64 0, .int .i64 (services - 1)] (by exact call57) rfl (cf_from self 0 (services - 1)) [] [0] (by decide) rfl [var g1 [.int .i64 x0, .int .i64 x1, .int .i64 x2, .int .i64 x3, .int .i64 x4, .int .i64 x5, .int .i64 x6, .int .i64 x7, .int .i64 x8, .int .i64 x9, .int .i64 x10, .int .i64 x11, .int .i64 x12, cv] 47] rfl RoOk.nil) rfl ?_
      rintro _ _ ⟨_, ⟨rfl, rfl⟩, rfl⟩
      refine O.gq (t := 40) rfl rfl h33 rfl (Pu.qt (Pu.not rfl)) rfl <| O.p (Pu.pickF rfl h33 rfl) rfl <| O.m rfl rfl ?_
      refine by_bool (!(Cf.from_ self 0 (services - 1))) (fun h37 => ?_) (fun h37 => ?_)
      ·
       have h38 : (Cf.from_ self 0 (services - 1)) = false := not_flip h37
       refine O.gskip (t := 47) rfl rfl (no_bool (by rw [h37]; decide)) rfl rfl <| O.gskip (t := 47) rfl rfl (no_bool (by rw [h37]; decide)) rfl rfl <| O.p (Pu.pickT rfl h37 rfl) rfl <| O.m rfl rfl <| O.gskip (t := 51) rfl rfl (no_bool (by decide)) rfl rfl <| O.gskip (t := 51) rfl rfl (no_bool (by decide)) rfl rfl <| O.p (Pu.pickT rfl rfl rfl) rfl <| O.m rfl rfl <| O.gskip (t := 55) rfl rfl (no_bool (by decide)) rfl rfl <| O.gskip (t := 55) rfl rfl (no_bool (by decide)) rfl rfl <| O.gskip (t := 55) rfl rfl (no_bool (by decide)) rfl rfl <| O.gskip (t := 55) rfl rfl (no_bool (by decide)) rfl rfl ?_
       refine O.gskip (t := 55) rfl rfl (no_bool (by decide)) rfl rfl <| O.p (Pu.pickT rfl rfl rfl) rfl <| O.nil <| J.condT rfl rfl <| J.seq <| J.region <| O.a rfl rfl <| O.nil ?_
       exact J.ret (Fin.ret (rs := [.tmp 8]) rfl [_] ⟨rfl, trivial⟩ [] (by decide) [] rfl ⟨(by rw [Cf.check_no13 (by simp only [*, Bool.and_true, Bool.and_false, Bool.true_and, Bool.false_and])]; rfl), rfl⟩)
      ·
       have h39 : (Cf.from_ self 0 (services - 1)) = true := not_flip h37
       refine O.gq (t := 47) rfl rfl h37 rfl (Pu.qt (Pu.move rfl)) rfl <| O.gq (t := 47) rfl rfl h37 rfl (Pu.qt (Pu.not rfl)) rfl <| O.p (Pu.pickF rfl h37 rfl) rfl <| O.m rfl rfl ?_
       refine by_bool (!(Cf.from_ x3 0 7)) (fun h40 => ?_) (fun h40 => ?_)
       ·
        have h41 : (Cf.from_ x3 0 7) = false := not_flip h40
        refine O.gskip (t := 51) rfl rfl (no_bool (by rw [h40]; decide)) rfl rfl <| O.gskip (t := 51) rfl rfl (no_bool (by rw [h40]; decide)) rfl rfl <| O.p (Pu.pickT rfl h40 rfl) rfl <| O.m rfl rfl <| O.gskip (t := 55) rfl rfl (no_bool (by decide)) rfl rfl <| O.gskip (t := 55) rfl rfl (no_bool (by decide)) rfl rfl <| O.gskip (t := 55) rfl rfl (no_bool (by decide)) rfl rfl <| O.gskip (t := 55) rfl rfl (no_bool (by decide)) rfl rfl <| O.gskip (t := 55) rfl rfl (no_bool (by decide)) rfl rfl <| O.p (Pu.pickT rfl rfl rfl) rfl <| O.nil <| J.condT rfl rfl ?_
        refine J.seq <| J.region <| O.a rfl rfl <| O.nil ?_
        exact J.ret (Fin.ret (rs := [.tmp 8]) rfl [_] ⟨rfl, trivial⟩ [] (by decide) [] rfl ⟨(by rw [Cf.check_no13 (by simp only [*, Bool.and_true, Bool.and_false, Bool.true_and, Bool.false_and])]; rfl), rfl⟩)
       ·
        have h42 : (Cf.from_ x3 0 7) = true := not_flip h40
        refine O.gq (t := 51) rfl rfl h40 rfl (Pu.qt (Pu.move rfl)) rfl <| O.gq (t := 51) rfl rfl h40 rfl (Pu.qt (Pu.not rfl)) rfl <| O.p (Pu.pickF rfl h40 rfl) rfl <| O.m rfl rfl <| O.gskip (t := 55) rfl rfl (no_bool (by decide)) rfl rfl <| O.gskip (t := 55) rfl rfl (no_bool (by decide)) rfl rfl <| O.gskip (t := 55) rfl rfl (no_bool (by decide)) rfl rfl <| O.gskip (t := 55) rfl rfl (no_bool (by decide)) rfl rfl <| O.gskip (t := 55) rfl rfl (no_bool (by decide)) rfl rfl <| O.p (Pu.pickT rfl rfl rfl) rfl <| O.nil <| J.condT rfl rfl ?_
        refine J.seq <| J.region <| O.a rfl rfl <| O.nil ?_
        exact J.ret (Fin.ret (rs := [.tmp 8]) rfl [_] ⟨rfl, trivial⟩ [] (by decide) [] rfl ⟨(by rw [Cf.check_no13 (by simp only [*, Bool.and_true, Bool.and_false, Bool.true_and, Bool.false_and])]; rfl), rfl⟩)
   ·
    refine O.gskip (t := 24) rfl rfl (no_bool (by rw [h8]; decide)) rfl rfl <| O.gskip (t := 24) rfl rfl (no_bool (by rw [h8]; decide)) rfl rfl <| O.gskip (t := 24) rfl rfl (no_bool (by rw [h8]; decide)) rfl rfl <| O.p (Pu.pickF rfl h8 rfl) rfl <| O.a rfl rfl <| O.nil <| J.seq <| J.region <| O.p (Pu.fieldAddr (off' := 4) runUnderlying47 rfl sizeOf3 rfl rfl rfl) rfl <| O.q (Qt.ld rfl (Cel.var 0 rfl) (o := 0) (off := 4) rfl (Cut.one isAgg3 rfl)) rfl <| O.l (Lo.call [.int .i64 x4, .int .i64 0, .int .i64 256] (by exact call57) rfl (cf_from x4 0 256) [] [0] (by decide) rfl [var g1 [.int .i64 x0, .int .i64 x1, .int .i64 x2, .int .i64 x3, .int .i64 x4, .int .i64 x5, .int .i64 x6, .int .i64 x7, .int .i64 x8, .int .i64 x9, .int .i64 x10, .int .i64 x11, .int .i64 x12, cv] 47] rfl RoOk.nil) rfl ?_
    rintro _ _ ⟨_, ⟨rfl, rfl⟩, rfl⟩
    refine O.m rfl rfl ?_
    refine by_bool (Cf.from_ x4 0 256) (fun h44 => ?_) (fun h44 => ?_)
    ·
     refine O.gq (t := 32) rfl rfl h44 rfl (Pu.qt (Pu.fieldAddr (off' := 5) runUnderlying47 rfl sizeOf3 rfl rfl rfl)) rfl <| O.gq (t := 32) rfl rfl h44 rfl (Qt.ld rfl (Cel.var 0 rfl) (o := 0) (off := 5) rfl (Cut.one isAgg3 rfl)) rfl <| O.gl (t := 32) rfl rfl h44 rfl (Lo.call [.int .i64 x5, .int .i64 0, .int .i64 1099511627776] (by exact call57) rfl (cf_from x5 0 1099511627776) [] [0] (by decide) rfl [var g1 [.int .i64 x0, .int .i64 x1, .int .i64 x2, .int .i64 x3, .int .i64 x4, .int .i64 x5, .int .i64 x6, .int .i64 x7, .int .i64 x8, .int .i64 x9, .int .i64 x10, .int .i64 x11, .int .i64 x12, cv] 47] rfl RoOk.nil) rfl ?_
     rintro _ _ ⟨_, ⟨rfl, rfl⟩, rfl⟩
     refine O.p (Pu.pickT rfl h44 rfl) rfl <| O.a rfl rfl <| O.nil <| J.seq <| J.seq <| J.region <| O.m rfl rfl <| O.l (Lo.call [.int .i64 services, .int .i64 1, .int .i64 8] (by exact call57) rfl (cf_from services 1 8) [] [0] (by decide) rfl [var g1 [.int .i64 x0, .int .i64 x1, .int .i64 x2, .int .i64 x3, .int .i64 x4, .int .i64 x5, .int .i64 x6, .int .i64 x7, .int .i64 x8, .int .i64 x9, .int .i64 x10, .int .i64 x11, .int .i64 x12, cv] 47] rfl RoOk.nil) rfl ?_
     rintro _ _ ⟨_, ⟨rfl, rfl⟩, rfl⟩
     refine O.p (Pu.not rfl) rfl <| O.m rfl rfl ?_
     refine by_bool (!(Cf.from_ services 1 8)) (fun h47 => ?_) (fun h47 => ?_)
     ·
      have h48 : (Cf.from_ services 1 8) = false := not_flip h47
      refine O.gskip (t := 40) rfl rfl (no_bool (by rw [h47]; decide)) rfl rfl <| O.gskip (t := 40) rfl rfl (no_bool (by rw [h47]; decide)) rfl rfl <| O.gskip (t := 40) rfl rfl (no_bool (by rw [h47]; decide)) rfl rfl <| O.gskip (t := 40) rfl rfl (no_bool (by rw [h47]; decide)) rfl rfl <| O.gskip (t := 40) rfl rfl (no_bool (by rw [h47]; decide)) rfl rfl <| O.p (Pu.pickT rfl h47 rfl) rfl <| O.m rfl rfl <| O.gskip (t := 47) rfl rfl (no_bool (by decide)) rfl rfl <| O.gskip (t := 47) rfl rfl (no_bool (by decide)) rfl rfl <| O.p (Pu.pickT rfl rfl rfl) rfl <| O.m rfl rfl <| O.gskip (t := 51) rfl rfl (no_bool (by decide)) rfl rfl ?_
      refine O.gskip (t := 51) rfl rfl (no_bool (by decide)) rfl rfl <| O.p (Pu.pickT rfl rfl rfl) rfl <| O.m rfl rfl <| O.gskip (t := 55) rfl rfl (no_bool (by decide)) rfl rfl <| O.gskip (t := 55) rfl rfl (no_bool (by decide)) rfl rfl <| O.gskip (t := 55) rfl rfl (no_bool (by decide)) rfl rfl <| O.gskip (t := 55) rfl rfl (no_bool (by decide)) rfl rfl <| O.gskip (t := 55) rfl rfl (no_bool (by decide)) rfl rfl <| O.p (Pu.pickT rfl rfl rfl) rfl <| O.nil <| J.condT rfl rfl <| J.seq ?_
      refine J.region <| O.a rfl rfl <| O.nil ?_
      exact J.ret (Fin.ret (rs := [.tmp 8]) rfl [_] ⟨rfl, trivial⟩ [] (by decide) [] rfl ⟨(by rw [Cf.check_no13 (by simp only [*, Bool.and_true, Bool.and_false, Bool.true_and, Bool.false_and])]; rfl), rfl⟩)
     ·
      have h49 : (Cf.from_ services 1 8) = true := not_flip h47
      refine O.gq (t := 40) rfl rfl h47 rfl (Pu.qt (Pu.move rfl)) rfl <| O.gq (t := 40) rfl rfl h47 rfl (Pu.qt (Pu.move rfl)) rfl <| O.gq (t := 40) rfl rfl h47 rfl (Pu.qt (Pu.sub' rfl rfl (by have h_ := Cf.from_bnd (by assumption : Cf.from_ services 1 8 = true); omega))) rfl <| O.gl (t := 40) rfl rfl h47 rfl (Lo.call [.int .i64 self, .int .i64 0, .int .i64 (services - 1)] (by exact call57) rfl (cf_from self 0 (services - 1)) [] [0] (by decide) rfl [var g1 [.int .i64 x0, .int .i64 x1, .int .i64 x2, .int .i64 x3, .int .i64 x4, .int .i64 x5, .int .i64 x6, .int .i64 x7, .int .i64 x8, .int .i64 x9, .int .i64 x10, .int .i64 x11, .int .i64 x12, cv] 47] rfl RoOk.nil) rfl ?_
      rintro _ _ ⟨_, ⟨rfl, rfl⟩, rfl⟩
      refine O.gq (t := 40) rfl rfl h47 rfl (Pu.qt (Pu.not rfl)) rfl <| O.p (Pu.pickF rfl h47 rfl) rfl <| O.m rfl rfl ?_
      refine by_bool (!(Cf.from_ self 0 (services - 1))) (fun h51 => ?_) (fun h51 => ?_)
      ·
       have h52 : (Cf.from_ self 0 (services - 1)) = false := not_flip h51
       refine O.gskip (t := 47) rfl rfl (no_bool (by rw [h51]; decide)) rfl rfl <| O.gskip (t := 47) rfl rfl (no_bool (by rw [h51]; decide)) rfl rfl <| O.p (Pu.pickT rfl h51 rfl) rfl <| O.m rfl rfl <| O.gskip (t := 51) rfl rfl (no_bool (by decide)) rfl rfl <| O.gskip (t := 51) rfl rfl (no_bool (by decide)) rfl rfl <| O.p (Pu.pickT rfl rfl rfl) rfl <| O.m rfl rfl <| O.gskip (t := 55) rfl rfl (no_bool (by decide)) rfl rfl <| O.gskip (t := 55) rfl rfl (no_bool (by decide)) rfl rfl <| O.gskip (t := 55) rfl rfl (no_bool (by decide)) rfl rfl <| O.gskip (t := 55) rfl rfl (no_bool (by decide)) rfl rfl ?_
       refine O.gskip (t := 55) rfl rfl (no_bool (by decide)) rfl rfl <| O.p (Pu.pickT rfl rfl rfl) rfl <| O.nil <| J.condT rfl rfl <| J.seq <| J.region <| O.a rfl rfl <| O.nil ?_
       exact J.ret (Fin.ret (rs := [.tmp 8]) rfl [_] ⟨rfl, trivial⟩ [] (by decide) [] rfl ⟨(by rw [Cf.check_no13 (by simp only [*, Bool.and_true, Bool.and_false, Bool.true_and, Bool.false_and])]; rfl), rfl⟩)
      ·
       have h53 : (Cf.from_ self 0 (services - 1)) = true := not_flip h51
       refine O.gq (t := 47) rfl rfl h51 rfl (Pu.qt (Pu.move rfl)) rfl <| O.gq (t := 47) rfl rfl h51 rfl (Pu.qt (Pu.not rfl)) rfl <| O.p (Pu.pickF rfl h51 rfl) rfl <| O.m rfl rfl <| O.gskip (t := 51) rfl rfl (no_bool (by decide)) rfl rfl <| O.gskip (t := 51) rfl rfl (no_bool (by decide)) rfl rfl <| O.p (Pu.pickT rfl rfl rfl) rfl <| O.m rfl rfl <| O.gskip (t := 55) rfl rfl (no_bool (by decide)) rfl rfl <| O.gskip (t := 55) rfl rfl (no_bool (by decide)) rfl rfl <| O.gskip (t := 55) rfl rfl (no_bool (by decide)) rfl rfl <| O.gskip (t := 55) rfl rfl (no_bool (by decide)) rfl rfl ?_
       refine O.gskip (t := 55) rfl rfl (no_bool (by decide)) rfl rfl <| O.p (Pu.pickT rfl rfl rfl) rfl <| O.nil <| J.condT rfl rfl <| J.seq <| J.region <| O.a rfl rfl <| O.nil ?_
       exact J.ret (Fin.ret (rs := [.tmp 8]) rfl [_] ⟨rfl, trivial⟩ [] (by decide) [] rfl ⟨(by rw [Cf.check_no13 (by simp only [*, Bool.and_true, Bool.and_false, Bool.true_and, Bool.false_and])]; rfl), rfl⟩)
    ·
     refine O.gskip (t := 32) rfl rfl (no_bool (by rw [h44]; decide)) rfl rfl <| O.gskip (t := 32) rfl rfl (no_bool (by rw [h44]; decide)) rfl rfl <| O.gskip (t := 32) rfl rfl (no_bool (by rw [h44]; decide)) rfl rfl <| O.p (Pu.pickF rfl h44 rfl) rfl <| O.a rfl rfl <| O.nil <| J.seq <| J.seq <| J.region <| O.m rfl rfl <| O.l (Lo.call [.int .i64 services, .int .i64 1, .int .i64 8] (by exact call57) rfl (cf_from services 1 8) [] [0] (by decide) rfl [var g1 [.int .i64 x0, .int .i64 x1, .int .i64 x2, .int .i64 x3, .int .i64 x4, .int .i64 x5, .int .i64 x6, .int .i64 x7, .int .i64 x8, .int .i64 x9, .int .i64 x10, .int .i64 x11, .int .i64 x12, cv] 47] rfl RoOk.nil) rfl ?_
     rintro _ _ ⟨_, ⟨rfl, rfl⟩, rfl⟩
     refine O.p (Pu.not rfl) rfl <| O.m rfl rfl ?_
     refine by_bool (!(Cf.from_ services 1 8)) (fun h55 => ?_) (fun h55 => ?_)
     ·
      have h56 : (Cf.from_ services 1 8) = false := not_flip h55
      refine O.gskip (t := 40) rfl rfl (no_bool (by rw [h55]; decide)) rfl rfl <| O.gskip (t := 40) rfl rfl (no_bool (by rw [h55]; decide)) rfl rfl <| O.gskip (t := 40) rfl rfl (no_bool (by rw [h55]; decide)) rfl rfl <| O.gskip (t := 40) rfl rfl (no_bool (by rw [h55]; decide)) rfl rfl <| O.gskip (t := 40) rfl rfl (no_bool (by rw [h55]; decide)) rfl rfl <| O.p (Pu.pickT rfl h55 rfl) rfl <| O.m rfl rfl <| O.gskip (t := 47) rfl rfl (no_bool (by decide)) rfl rfl <| O.gskip (t := 47) rfl rfl (no_bool (by decide)) rfl rfl <| O.p (Pu.pickT rfl rfl rfl) rfl <| O.m rfl rfl <| O.gskip (t := 51) rfl rfl (no_bool (by decide)) rfl rfl ?_
      refine O.gskip (t := 51) rfl rfl (no_bool (by decide)) rfl rfl <| O.p (Pu.pickT rfl rfl rfl) rfl <| O.m rfl rfl <| O.gskip (t := 55) rfl rfl (no_bool (by decide)) rfl rfl <| O.gskip (t := 55) rfl rfl (no_bool (by decide)) rfl rfl <| O.gskip (t := 55) rfl rfl (no_bool (by decide)) rfl rfl <| O.gskip (t := 55) rfl rfl (no_bool (by decide)) rfl rfl <| O.gskip (t := 55) rfl rfl (no_bool (by decide)) rfl rfl <| O.p (Pu.pickT rfl rfl rfl) rfl <| O.nil <| J.condT rfl rfl <| J.seq ?_
      refine J.region <| O.a rfl rfl <| O.nil ?_
      exact J.ret (Fin.ret (rs := [.tmp 8]) rfl [_] ⟨rfl, trivial⟩ [] (by decide) [] rfl ⟨(by rw [Cf.check_no13 (by simp only [*, Bool.and_true, Bool.and_false, Bool.true_and, Bool.false_and])]; rfl), rfl⟩)
     ·
      have h57 : (Cf.from_ services 1 8) = true := not_flip h55
      refine O.gq (t := 40) rfl rfl h55 rfl (Pu.qt (Pu.move rfl)) rfl <| O.gq (t := 40) rfl rfl h55 rfl (Pu.qt (Pu.move rfl)) rfl <| O.gq (t := 40) rfl rfl h55 rfl (Pu.qt (Pu.sub' rfl rfl (by have h_ := Cf.from_bnd (by assumption : Cf.from_ services 1 8 = true); omega))) rfl <| O.gl (t := 40) rfl rfl h55 rfl (Lo.call [.int .i64 self, .int .i64 0, .int .i64 (services - 1)] (by exact call57) rfl (cf_from self 0 (services - 1)) [] [0] (by decide) rfl [var g1 [.int .i64 x0, .int .i64 x1, .int .i64 x2, .int .i64 x3, .int .i64 x4, .int .i64 x5, .int .i64 x6, .int .i64 x7, .int .i64 x8, .int .i64 x9, .int .i64 x10, .int .i64 x11, .int .i64 x12, cv] 47] rfl RoOk.nil) rfl ?_
      rintro _ _ ⟨_, ⟨rfl, rfl⟩, rfl⟩
      refine O.gq (t := 40) rfl rfl h55 rfl (Pu.qt (Pu.not rfl)) rfl <| O.p (Pu.pickF rfl h55 rfl) rfl <| O.m rfl rfl ?_
      refine by_bool (!(Cf.from_ self 0 (services - 1))) (fun h59 => ?_) (fun h59 => ?_)
      ·
       have h60 : (Cf.from_ self 0 (services - 1)) = false := not_flip h59
       refine O.gskip (t := 47) rfl rfl (no_bool (by rw [h59]; decide)) rfl rfl <| O.gskip (t := 47) rfl rfl (no_bool (by rw [h59]; decide)) rfl rfl <| O.p (Pu.pickT rfl h59 rfl) rfl <| O.m rfl rfl <| O.gskip (t := 51) rfl rfl (no_bool (by decide)) rfl rfl <| O.gskip (t := 51) rfl rfl (no_bool (by decide)) rfl rfl <| O.p (Pu.pickT rfl rfl rfl) rfl <| O.m rfl rfl <| O.gskip (t := 55) rfl rfl (no_bool (by decide)) rfl rfl <| O.gskip (t := 55) rfl rfl (no_bool (by decide)) rfl rfl <| O.gskip (t := 55) rfl rfl (no_bool (by decide)) rfl rfl <| O.gskip (t := 55) rfl rfl (no_bool (by decide)) rfl rfl ?_
       refine O.gskip (t := 55) rfl rfl (no_bool (by decide)) rfl rfl <| O.p (Pu.pickT rfl rfl rfl) rfl <| O.nil <| J.condT rfl rfl <| J.seq <| J.region <| O.a rfl rfl <| O.nil ?_
       exact J.ret (Fin.ret (rs := [.tmp 8]) rfl [_] ⟨rfl, trivial⟩ [] (by decide) [] rfl ⟨(by rw [Cf.check_no13 (by simp only [*, Bool.and_true, Bool.and_false, Bool.true_and, Bool.false_and])]; rfl), rfl⟩)
      ·
       have h61 : (Cf.from_ self 0 (services - 1)) = true := not_flip h59
       refine O.gq (t := 47) rfl rfl h59 rfl (Pu.qt (Pu.move rfl)) rfl <| O.gq (t := 47) rfl rfl h59 rfl (Pu.qt (Pu.not rfl)) rfl <| O.p (Pu.pickF rfl h59 rfl) rfl <| O.m rfl rfl <| O.gskip (t := 51) rfl rfl (no_bool (by decide)) rfl rfl <| O.gskip (t := 51) rfl rfl (no_bool (by decide)) rfl rfl <| O.p (Pu.pickT rfl rfl rfl) rfl <| O.m rfl rfl <| O.gskip (t := 55) rfl rfl (no_bool (by decide)) rfl rfl <| O.gskip (t := 55) rfl rfl (no_bool (by decide)) rfl rfl <| O.gskip (t := 55) rfl rfl (no_bool (by decide)) rfl rfl <| O.gskip (t := 55) rfl rfl (no_bool (by decide)) rfl rfl ?_
       refine O.gskip (t := 55) rfl rfl (no_bool (by decide)) rfl rfl <| O.p (Pu.pickT rfl rfl rfl) rfl <| O.nil <| J.condT rfl rfl <| J.seq <| J.region <| O.a rfl rfl <| O.nil ?_
       exact J.ret (Fin.ret (rs := [.tmp 8]) rfl [_] ⟨rfl, trivial⟩ [] (by decide) [] rfl ⟨(by rw [Cf.check_no13 (by simp only [*, Bool.and_true, Bool.and_false, Bool.true_and, Bool.false_and])]; rfl), rfl⟩)
  ·
   refine O.gskip (t := 19) rfl rfl (no_bool (by rw [h6]; decide)) rfl rfl <| O.gskip (t := 19) rfl rfl (no_bool (by rw [h6]; decide)) rfl rfl <| O.gskip (t := 19) rfl rfl (no_bool (by rw [h6]; decide)) rfl rfl <| O.p (Pu.pickF rfl h6 rfl) rfl <| O.m rfl rfl <| O.gskip (t := 24) rfl rfl (no_bool (by decide)) rfl rfl <| O.gskip (t := 24) rfl rfl (no_bool (by decide)) rfl rfl <| O.gskip (t := 24) rfl rfl (no_bool (by decide)) rfl rfl <| O.p (Pu.pickF rfl rfl rfl) rfl <| O.a rfl rfl <| O.nil <| J.seq ?_
   refine J.region <| O.p (Pu.fieldAddr (off' := 4) runUnderlying47 rfl sizeOf3 rfl rfl rfl) rfl <| O.q (Qt.ld rfl (Cel.var 0 rfl) (o := 0) (off := 4) rfl (Cut.one isAgg3 rfl)) rfl <| O.l (Lo.call [.int .i64 x4, .int .i64 0, .int .i64 256] (by exact call57) rfl (cf_from x4 0 256) [] [0] (by decide) rfl [var g1 [.int .i64 x0, .int .i64 x1, .int .i64 x2, .int .i64 x3, .int .i64 x4, .int .i64 x5, .int .i64 x6, .int .i64 x7, .int .i64 x8, .int .i64 x9, .int .i64 x10, .int .i64 x11, .int .i64 x12, cv] 47] rfl RoOk.nil) rfl ?_
   rintro _ _ ⟨_, ⟨rfl, rfl⟩, rfl⟩
   refine O.m rfl rfl ?_
   refine by_bool (Cf.from_ x4 0 256) (fun h63 => ?_) (fun h63 => ?_)
   ·
    refine O.gq (t := 32) rfl rfl h63 rfl (Pu.qt (Pu.fieldAddr (off' := 5) runUnderlying47 rfl sizeOf3 rfl rfl rfl)) rfl <| O.gq (t := 32) rfl rfl h63 rfl (Qt.ld rfl (Cel.var 0 rfl) (o := 0) (off := 5) rfl (Cut.one isAgg3 rfl)) rfl <| O.gl (t := 32) rfl rfl h63 rfl (Lo.call [.int .i64 x5, .int .i64 0, .int .i64 1099511627776] (by exact call57) rfl (cf_from x5 0 1099511627776) [] [0] (by decide) rfl [var g1 [.int .i64 x0, .int .i64 x1, .int .i64 x2, .int .i64 x3, .int .i64 x4, .int .i64 x5, .int .i64 x6, .int .i64 x7, .int .i64 x8, .int .i64 x9, .int .i64 x10, .int .i64 x11, .int .i64 x12, cv] 47] rfl RoOk.nil) rfl ?_
    rintro _ _ ⟨_, ⟨rfl, rfl⟩, rfl⟩
    refine O.p (Pu.pickT rfl h63 rfl) rfl <| O.a rfl rfl <| O.nil <| J.seq <| J.seq <| J.region <| O.m rfl rfl <| O.l (Lo.call [.int .i64 services, .int .i64 1, .int .i64 8] (by exact call57) rfl (cf_from services 1 8) [] [0] (by decide) rfl [var g1 [.int .i64 x0, .int .i64 x1, .int .i64 x2, .int .i64 x3, .int .i64 x4, .int .i64 x5, .int .i64 x6, .int .i64 x7, .int .i64 x8, .int .i64 x9, .int .i64 x10, .int .i64 x11, .int .i64 x12, cv] 47] rfl RoOk.nil) rfl ?_
    rintro _ _ ⟨_, ⟨rfl, rfl⟩, rfl⟩
    refine O.p (Pu.not rfl) rfl <| O.m rfl rfl ?_
    refine by_bool (!(Cf.from_ services 1 8)) (fun h66 => ?_) (fun h66 => ?_)
    ·
     have h67 : (Cf.from_ services 1 8) = false := not_flip h66
     refine O.gskip (t := 40) rfl rfl (no_bool (by rw [h66]; decide)) rfl rfl <| O.gskip (t := 40) rfl rfl (no_bool (by rw [h66]; decide)) rfl rfl <| O.gskip (t := 40) rfl rfl (no_bool (by rw [h66]; decide)) rfl rfl <| O.gskip (t := 40) rfl rfl (no_bool (by rw [h66]; decide)) rfl rfl <| O.gskip (t := 40) rfl rfl (no_bool (by rw [h66]; decide)) rfl rfl <| O.p (Pu.pickT rfl h66 rfl) rfl <| O.m rfl rfl <| O.gskip (t := 47) rfl rfl (no_bool (by decide)) rfl rfl <| O.gskip (t := 47) rfl rfl (no_bool (by decide)) rfl rfl <| O.p (Pu.pickT rfl rfl rfl) rfl <| O.m rfl rfl <| O.gskip (t := 51) rfl rfl (no_bool (by decide)) rfl rfl ?_
     refine O.gskip (t := 51) rfl rfl (no_bool (by decide)) rfl rfl <| O.p (Pu.pickT rfl rfl rfl) rfl <| O.m rfl rfl <| O.gskip (t := 55) rfl rfl (no_bool (by decide)) rfl rfl <| O.gskip (t := 55) rfl rfl (no_bool (by decide)) rfl rfl <| O.gskip (t := 55) rfl rfl (no_bool (by decide)) rfl rfl <| O.gskip (t := 55) rfl rfl (no_bool (by decide)) rfl rfl <| O.gskip (t := 55) rfl rfl (no_bool (by decide)) rfl rfl <| O.p (Pu.pickT rfl rfl rfl) rfl <| O.nil <| J.condT rfl rfl <| J.seq ?_
     refine J.region <| O.a rfl rfl <| O.nil ?_
     exact J.ret (Fin.ret (rs := [.tmp 8]) rfl [_] ⟨rfl, trivial⟩ [] (by decide) [] rfl ⟨(by rw [Cf.check_no13 (by simp only [*, Bool.and_true, Bool.and_false, Bool.true_and, Bool.false_and])]; rfl), rfl⟩)
    ·
     have h68 : (Cf.from_ services 1 8) = true := not_flip h66
     refine O.gq (t := 40) rfl rfl h66 rfl (Pu.qt (Pu.move rfl)) rfl <| O.gq (t := 40) rfl rfl h66 rfl (Pu.qt (Pu.move rfl)) rfl <| O.gq (t := 40) rfl rfl h66 rfl (Pu.qt (Pu.sub' rfl rfl (by have h_ := Cf.from_bnd (by assumption : Cf.from_ services 1 8 = true); omega))) rfl <| O.gl (t := 40) rfl rfl h66 rfl (Lo.call [.int .i64 self, .int .i64 0, .int .i64 (services - 1)] (by exact call57) rfl (cf_from self 0 (services - 1)) [] [0] (by decide) rfl [var g1 [.int .i64 x0, .int .i64 x1, .int .i64 x2, .int .i64 x3, .int .i64 x4, .int .i64 x5, .int .i64 x6, .int .i64 x7, .int .i64 x8, .int .i64 x9, .int .i64 x10, .int .i64 x11, .int .i64 x12, cv] 47] rfl RoOk.nil) rfl ?_
     rintro _ _ ⟨_, ⟨rfl, rfl⟩, rfl⟩
     refine O.gq (t := 40) rfl rfl h66 rfl (Pu.qt (Pu.not rfl)) rfl <| O.p (Pu.pickF rfl h66 rfl) rfl <| O.m rfl rfl ?_
     refine by_bool (!(Cf.from_ self 0 (services - 1))) (fun h70 => ?_) (fun h70 => ?_)
     ·
      have h71 : (Cf.from_ self 0 (services - 1)) = false := not_flip h70
      refine O.gskip (t := 47) rfl rfl (no_bool (by rw [h70]; decide)) rfl rfl <| O.gskip (t := 47) rfl rfl (no_bool (by rw [h70]; decide)) rfl rfl <| O.p (Pu.pickT rfl h70 rfl) rfl <| O.m rfl rfl <| O.gskip (t := 51) rfl rfl (no_bool (by decide)) rfl rfl <| O.gskip (t := 51) rfl rfl (no_bool (by decide)) rfl rfl <| O.p (Pu.pickT rfl rfl rfl) rfl <| O.m rfl rfl <| O.gskip (t := 55) rfl rfl (no_bool (by decide)) rfl rfl <| O.gskip (t := 55) rfl rfl (no_bool (by decide)) rfl rfl <| O.gskip (t := 55) rfl rfl (no_bool (by decide)) rfl rfl <| O.gskip (t := 55) rfl rfl (no_bool (by decide)) rfl rfl ?_
      refine O.gskip (t := 55) rfl rfl (no_bool (by decide)) rfl rfl <| O.p (Pu.pickT rfl rfl rfl) rfl <| O.nil <| J.condT rfl rfl <| J.seq <| J.region <| O.a rfl rfl <| O.nil ?_
      exact J.ret (Fin.ret (rs := [.tmp 8]) rfl [_] ⟨rfl, trivial⟩ [] (by decide) [] rfl ⟨(by rw [Cf.check_no13 (by simp only [*, Bool.and_true, Bool.and_false, Bool.true_and, Bool.false_and])]; rfl), rfl⟩)
     ·
      have h72 : (Cf.from_ self 0 (services - 1)) = true := not_flip h70
      refine O.gq (t := 47) rfl rfl h70 rfl (Pu.qt (Pu.move rfl)) rfl <| O.gq (t := 47) rfl rfl h70 rfl (Pu.qt (Pu.not rfl)) rfl <| O.p (Pu.pickF rfl h70 rfl) rfl <| O.m rfl rfl <| O.gskip (t := 51) rfl rfl (no_bool (by decide)) rfl rfl <| O.gskip (t := 51) rfl rfl (no_bool (by decide)) rfl rfl <| O.p (Pu.pickT rfl rfl rfl) rfl <| O.m rfl rfl <| O.gskip (t := 55) rfl rfl (no_bool (by decide)) rfl rfl <| O.gskip (t := 55) rfl rfl (no_bool (by decide)) rfl rfl <| O.gskip (t := 55) rfl rfl (no_bool (by decide)) rfl rfl <| O.gskip (t := 55) rfl rfl (no_bool (by decide)) rfl rfl ?_
      refine O.gskip (t := 55) rfl rfl (no_bool (by decide)) rfl rfl <| O.p (Pu.pickT rfl rfl rfl) rfl <| O.nil <| J.condT rfl rfl <| J.seq <| J.region <| O.a rfl rfl <| O.nil ?_
      exact J.ret (Fin.ret (rs := [.tmp 8]) rfl [_] ⟨rfl, trivial⟩ [] (by decide) [] rfl ⟨(by rw [Cf.check_no13 (by simp only [*, Bool.and_true, Bool.and_false, Bool.true_and, Bool.false_and])]; rfl), rfl⟩)
   ·
    refine O.gskip (t := 32) rfl rfl (no_bool (by rw [h63]; decide)) rfl rfl <| O.gskip (t := 32) rfl rfl (no_bool (by rw [h63]; decide)) rfl rfl <| O.gskip (t := 32) rfl rfl (no_bool (by rw [h63]; decide)) rfl rfl <| O.p (Pu.pickF rfl h63 rfl) rfl <| O.a rfl rfl <| O.nil <| J.seq <| J.seq <| J.region <| O.m rfl rfl <| O.l (Lo.call [.int .i64 services, .int .i64 1, .int .i64 8] (by exact call57) rfl (cf_from services 1 8) [] [0] (by decide) rfl [var g1 [.int .i64 x0, .int .i64 x1, .int .i64 x2, .int .i64 x3, .int .i64 x4, .int .i64 x5, .int .i64 x6, .int .i64 x7, .int .i64 x8, .int .i64 x9, .int .i64 x10, .int .i64 x11, .int .i64 x12, cv] 47] rfl RoOk.nil) rfl ?_
    rintro _ _ ⟨_, ⟨rfl, rfl⟩, rfl⟩
    refine O.p (Pu.not rfl) rfl <| O.m rfl rfl ?_
    refine by_bool (!(Cf.from_ services 1 8)) (fun h74 => ?_) (fun h74 => ?_)
    ·
     have h75 : (Cf.from_ services 1 8) = false := not_flip h74
     refine O.gskip (t := 40) rfl rfl (no_bool (by rw [h74]; decide)) rfl rfl <| O.gskip (t := 40) rfl rfl (no_bool (by rw [h74]; decide)) rfl rfl <| O.gskip (t := 40) rfl rfl (no_bool (by rw [h74]; decide)) rfl rfl <| O.gskip (t := 40) rfl rfl (no_bool (by rw [h74]; decide)) rfl rfl <| O.gskip (t := 40) rfl rfl (no_bool (by rw [h74]; decide)) rfl rfl <| O.p (Pu.pickT rfl h74 rfl) rfl <| O.m rfl rfl <| O.gskip (t := 47) rfl rfl (no_bool (by decide)) rfl rfl <| O.gskip (t := 47) rfl rfl (no_bool (by decide)) rfl rfl <| O.p (Pu.pickT rfl rfl rfl) rfl <| O.m rfl rfl <| O.gskip (t := 51) rfl rfl (no_bool (by decide)) rfl rfl ?_
     refine O.gskip (t := 51) rfl rfl (no_bool (by decide)) rfl rfl <| O.p (Pu.pickT rfl rfl rfl) rfl <| O.m rfl rfl <| O.gskip (t := 55) rfl rfl (no_bool (by decide)) rfl rfl <| O.gskip (t := 55) rfl rfl (no_bool (by decide)) rfl rfl <| O.gskip (t := 55) rfl rfl (no_bool (by decide)) rfl rfl <| O.gskip (t := 55) rfl rfl (no_bool (by decide)) rfl rfl <| O.gskip (t := 55) rfl rfl (no_bool (by decide)) rfl rfl <| O.p (Pu.pickT rfl rfl rfl) rfl <| O.nil <| J.condT rfl rfl <| J.seq ?_
     refine J.region <| O.a rfl rfl <| O.nil ?_
     exact J.ret (Fin.ret (rs := [.tmp 8]) rfl [_] ⟨rfl, trivial⟩ [] (by decide) [] rfl ⟨(by rw [Cf.check_no13 (by simp only [*, Bool.and_true, Bool.and_false, Bool.true_and, Bool.false_and])]; rfl), rfl⟩)
    ·
     have h76 : (Cf.from_ services 1 8) = true := not_flip h74
     refine O.gq (t := 40) rfl rfl h74 rfl (Pu.qt (Pu.move rfl)) rfl <| O.gq (t := 40) rfl rfl h74 rfl (Pu.qt (Pu.move rfl)) rfl <| O.gq (t := 40) rfl rfl h74 rfl (Pu.qt (Pu.sub' rfl rfl (by have h_ := Cf.from_bnd (by assumption : Cf.from_ services 1 8 = true); omega))) rfl <| O.gl (t := 40) rfl rfl h74 rfl (Lo.call [.int .i64 self, .int .i64 0, .int .i64 (services - 1)] (by exact call57) rfl (cf_from self 0 (services - 1)) [] [0] (by decide) rfl [var g1 [.int .i64 x0, .int .i64 x1, .int .i64 x2, .int .i64 x3, .int .i64 x4, .int .i64 x5, .int .i64 x6, .int .i64 x7, .int .i64 x8, .int .i64 x9, .int .i64 x10, .int .i64 x11, .int .i64 x12, cv] 47] rfl RoOk.nil) rfl ?_
     rintro _ _ ⟨_, ⟨rfl, rfl⟩, rfl⟩
     refine O.gq (t := 40) rfl rfl h74 rfl (Pu.qt (Pu.not rfl)) rfl <| O.p (Pu.pickF rfl h74 rfl) rfl <| O.m rfl rfl ?_
     refine by_bool (!(Cf.from_ self 0 (services - 1))) (fun h78 => ?_) (fun h78 => ?_)
     ·
      have h79 : (Cf.from_ self 0 (services - 1)) = false := not_flip h78
      refine O.gskip (t := 47) rfl rfl (no_bool (by rw [h78]; decide)) rfl rfl <| O.gskip (t := 47) rfl rfl (no_bool (by rw [h78]; decide)) rfl rfl <| O.p (Pu.pickT rfl h78 rfl) rfl <| O.m rfl rfl <| O.gskip (t := 51) rfl rfl (no_bool (by decide)) rfl rfl <| O.gskip (t := 51) rfl rfl (no_bool (by decide)) rfl rfl <| O.p (Pu.pickT rfl rfl rfl) rfl <| O.m rfl rfl <| O.gskip (t := 55) rfl rfl (no_bool (by decide)) rfl rfl <| O.gskip (t := 55) rfl rfl (no_bool (by decide)) rfl rfl <| O.gskip (t := 55) rfl rfl (no_bool (by decide)) rfl rfl <| O.gskip (t := 55) rfl rfl (no_bool (by decide)) rfl rfl ?_
      refine O.gskip (t := 55) rfl rfl (no_bool (by decide)) rfl rfl <| O.p (Pu.pickT rfl rfl rfl) rfl <| O.nil <| J.condT rfl rfl <| J.seq <| J.region <| O.a rfl rfl <| O.nil ?_
      exact J.ret (Fin.ret (rs := [.tmp 8]) rfl [_] ⟨rfl, trivial⟩ [] (by decide) [] rfl ⟨(by rw [Cf.check_no13 (by simp only [*, Bool.and_true, Bool.and_false, Bool.true_and, Bool.false_and])]; rfl), rfl⟩)
     ·
      have h80 : (Cf.from_ self 0 (services - 1)) = true := not_flip h78
      refine O.gq (t := 47) rfl rfl h78 rfl (Pu.qt (Pu.move rfl)) rfl <| O.gq (t := 47) rfl rfl h78 rfl (Pu.qt (Pu.not rfl)) rfl <| O.p (Pu.pickF rfl h78 rfl) rfl <| O.m rfl rfl <| O.gskip (t := 51) rfl rfl (no_bool (by decide)) rfl rfl <| O.gskip (t := 51) rfl rfl (no_bool (by decide)) rfl rfl <| O.p (Pu.pickT rfl rfl rfl) rfl <| O.m rfl rfl <| O.gskip (t := 55) rfl rfl (no_bool (by decide)) rfl rfl <| O.gskip (t := 55) rfl rfl (no_bool (by decide)) rfl rfl <| O.gskip (t := 55) rfl rfl (no_bool (by decide)) rfl rfl <| O.gskip (t := 55) rfl rfl (no_bool (by decide)) rfl rfl ?_
      refine O.gskip (t := 55) rfl rfl (no_bool (by decide)) rfl rfl <| O.p (Pu.pickT rfl rfl rfl) rfl <| O.nil <| J.condT rfl rfl <| J.seq <| J.region <| O.a rfl rfl <| O.nil ?_
      exact J.ret (Fin.ret (rs := [.tmp 8]) rfl [_] ⟨rfl, trivial⟩ [] (by decide) [] rfl ⟨(by rw [Cf.check_no13 (by simp only [*, Bool.and_true, Bool.and_false, Bool.true_and, Bool.false_and])]; rfl), rfl⟩)
 ·
  refine O.gskip (t := 14) rfl rfl (no_bool (by rw [h4]; decide)) rfl rfl <| O.gskip (t := 14) rfl rfl (no_bool (by rw [h4]; decide)) rfl rfl <| O.gskip (t := 14) rfl rfl (no_bool (by rw [h4]; decide)) rfl rfl <| O.p (Pu.pickF rfl h4 rfl) rfl <| O.m rfl rfl <| O.gskip (t := 19) rfl rfl (no_bool (by decide)) rfl rfl <| O.gskip (t := 19) rfl rfl (no_bool (by decide)) rfl rfl <| O.gskip (t := 19) rfl rfl (no_bool (by decide)) rfl rfl <| O.p (Pu.pickF rfl rfl rfl) rfl <| O.m rfl rfl <| O.gskip (t := 24) rfl rfl (no_bool (by decide)) rfl rfl <| O.gskip (t := 24) rfl rfl (no_bool (by decide)) rfl rfl ?_
  refine O.gskip (t := 24) rfl rfl (no_bool (by decide)) rfl rfl <| O.p (Pu.pickF rfl rfl rfl) rfl <| O.a rfl rfl <| O.nil <| J.seq <| J.region <| O.p (Pu.fieldAddr (off' := 4) runUnderlying47 rfl sizeOf3 rfl rfl rfl) rfl <| O.q (Qt.ld rfl (Cel.var 0 rfl) (o := 0) (off := 4) rfl (Cut.one isAgg3 rfl)) rfl <| O.l (Lo.call [.int .i64 x4, .int .i64 0, .int .i64 256] (by exact call57) rfl (cf_from x4 0 256) [] [0] (by decide) rfl [var g1 [.int .i64 x0, .int .i64 x1, .int .i64 x2, .int .i64 x3, .int .i64 x4, .int .i64 x5, .int .i64 x6, .int .i64 x7, .int .i64 x8, .int .i64 x9, .int .i64 x10, .int .i64 x11, .int .i64 x12, cv] 47] rfl RoOk.nil) rfl ?_
  rintro _ _ ⟨_, ⟨rfl, rfl⟩, rfl⟩
  refine O.m rfl rfl ?_
  refine by_bool (Cf.from_ x4 0 256) (fun h82 => ?_) (fun h82 => ?_)
  ·
   refine O.gq (t := 32) rfl rfl h82 rfl (Pu.qt (Pu.fieldAddr (off' := 5) runUnderlying47 rfl sizeOf3 rfl rfl rfl)) rfl <| O.gq (t := 32) rfl rfl h82 rfl (Qt.ld rfl (Cel.var 0 rfl) (o := 0) (off := 5) rfl (Cut.one isAgg3 rfl)) rfl <| O.gl (t := 32) rfl rfl h82 rfl (Lo.call [.int .i64 x5, .int .i64 0, .int .i64 1099511627776] (by exact call57) rfl (cf_from x5 0 1099511627776) [] [0] (by decide) rfl [var g1 [.int .i64 x0, .int .i64 x1, .int .i64 x2, .int .i64 x3, .int .i64 x4, .int .i64 x5, .int .i64 x6, .int .i64 x7, .int .i64 x8, .int .i64 x9, .int .i64 x10, .int .i64 x11, .int .i64 x12, cv] 47] rfl RoOk.nil) rfl ?_
   rintro _ _ ⟨_, ⟨rfl, rfl⟩, rfl⟩
   refine O.p (Pu.pickT rfl h82 rfl) rfl <| O.a rfl rfl <| O.nil <| J.seq <| J.seq <| J.region <| O.m rfl rfl <| O.l (Lo.call [.int .i64 services, .int .i64 1, .int .i64 8] (by exact call57) rfl (cf_from services 1 8) [] [0] (by decide) rfl [var g1 [.int .i64 x0, .int .i64 x1, .int .i64 x2, .int .i64 x3, .int .i64 x4, .int .i64 x5, .int .i64 x6, .int .i64 x7, .int .i64 x8, .int .i64 x9, .int .i64 x10, .int .i64 x11, .int .i64 x12, cv] 47] rfl RoOk.nil) rfl ?_
   rintro _ _ ⟨_, ⟨rfl, rfl⟩, rfl⟩
   refine O.p (Pu.not rfl) rfl <| O.m rfl rfl ?_
   refine by_bool (!(Cf.from_ services 1 8)) (fun h85 => ?_) (fun h85 => ?_)
   ·
    have h86 : (Cf.from_ services 1 8) = false := not_flip h85
    refine O.gskip (t := 40) rfl rfl (no_bool (by rw [h85]; decide)) rfl rfl <| O.gskip (t := 40) rfl rfl (no_bool (by rw [h85]; decide)) rfl rfl <| O.gskip (t := 40) rfl rfl (no_bool (by rw [h85]; decide)) rfl rfl <| O.gskip (t := 40) rfl rfl (no_bool (by rw [h85]; decide)) rfl rfl <| O.gskip (t := 40) rfl rfl (no_bool (by rw [h85]; decide)) rfl rfl <| O.p (Pu.pickT rfl h85 rfl) rfl <| O.m rfl rfl <| O.gskip (t := 47) rfl rfl (no_bool (by decide)) rfl rfl <| O.gskip (t := 47) rfl rfl (no_bool (by decide)) rfl rfl <| O.p (Pu.pickT rfl rfl rfl) rfl <| O.m rfl rfl <| O.gskip (t := 51) rfl rfl (no_bool (by decide)) rfl rfl ?_
    refine O.gskip (t := 51) rfl rfl (no_bool (by decide)) rfl rfl <| O.p (Pu.pickT rfl rfl rfl) rfl <| O.m rfl rfl <| O.gskip (t := 55) rfl rfl (no_bool (by decide)) rfl rfl <| O.gskip (t := 55) rfl rfl (no_bool (by decide)) rfl rfl <| O.gskip (t := 55) rfl rfl (no_bool (by decide)) rfl rfl <| O.gskip (t := 55) rfl rfl (no_bool (by decide)) rfl rfl <| O.gskip (t := 55) rfl rfl (no_bool (by decide)) rfl rfl <| O.p (Pu.pickT rfl rfl rfl) rfl <| O.nil <| J.condT rfl rfl <| J.seq ?_
    refine J.region <| O.a rfl rfl <| O.nil ?_
    exact J.ret (Fin.ret (rs := [.tmp 8]) rfl [_] ⟨rfl, trivial⟩ [] (by decide) [] rfl ⟨(by rw [Cf.check_no13 (by simp only [*, Bool.and_true, Bool.and_false, Bool.true_and, Bool.false_and])]; rfl), rfl⟩)
   ·
    have h87 : (Cf.from_ services 1 8) = true := not_flip h85
    refine O.gq (t := 40) rfl rfl h85 rfl (Pu.qt (Pu.move rfl)) rfl <| O.gq (t := 40) rfl rfl h85 rfl (Pu.qt (Pu.move rfl)) rfl <| O.gq (t := 40) rfl rfl h85 rfl (Pu.qt (Pu.sub' rfl rfl (by have h_ := Cf.from_bnd (by assumption : Cf.from_ services 1 8 = true); omega))) rfl <| O.gl (t := 40) rfl rfl h85 rfl (Lo.call [.int .i64 self, .int .i64 0, .int .i64 (services - 1)] (by exact call57) rfl (cf_from self 0 (services - 1)) [] [0] (by decide) rfl [var g1 [.int .i64 x0, .int .i64 x1, .int .i64 x2, .int .i64 x3, .int .i64 x4, .int .i64 x5, .int .i64 x6, .int .i64 x7, .int .i64 x8, .int .i64 x9, .int .i64 x10, .int .i64 x11, .int .i64 x12, cv] 47] rfl RoOk.nil) rfl ?_
    rintro _ _ ⟨_, ⟨rfl, rfl⟩, rfl⟩
    refine O.gq (t := 40) rfl rfl h85 rfl (Pu.qt (Pu.not rfl)) rfl <| O.p (Pu.pickF rfl h85 rfl) rfl <| O.m rfl rfl ?_
    refine by_bool (!(Cf.from_ self 0 (services - 1))) (fun h89 => ?_) (fun h89 => ?_)
    ·
     have h90 : (Cf.from_ self 0 (services - 1)) = false := not_flip h89
     refine O.gskip (t := 47) rfl rfl (no_bool (by rw [h89]; decide)) rfl rfl <| O.gskip (t := 47) rfl rfl (no_bool (by rw [h89]; decide)) rfl rfl <| O.p (Pu.pickT rfl h89 rfl) rfl <| O.m rfl rfl <| O.gskip (t := 51) rfl rfl (no_bool (by decide)) rfl rfl <| O.gskip (t := 51) rfl rfl (no_bool (by decide)) rfl rfl <| O.p (Pu.pickT rfl rfl rfl) rfl <| O.m rfl rfl <| O.gskip (t := 55) rfl rfl (no_bool (by decide)) rfl rfl <| O.gskip (t := 55) rfl rfl (no_bool (by decide)) rfl rfl <| O.gskip (t := 55) rfl rfl (no_bool (by decide)) rfl rfl <| O.gskip (t := 55) rfl rfl (no_bool (by decide)) rfl rfl ?_
     refine O.gskip (t := 55) rfl rfl (no_bool (by decide)) rfl rfl <| O.p (Pu.pickT rfl rfl rfl) rfl <| O.nil <| J.condT rfl rfl <| J.seq <| J.region <| O.a rfl rfl <| O.nil ?_
     exact J.ret (Fin.ret (rs := [.tmp 8]) rfl [_] ⟨rfl, trivial⟩ [] (by decide) [] rfl ⟨(by rw [Cf.check_no13 (by simp only [*, Bool.and_true, Bool.and_false, Bool.true_and, Bool.false_and])]; rfl), rfl⟩)
    ·
     have h91 : (Cf.from_ self 0 (services - 1)) = true := not_flip h89
     refine O.gq (t := 47) rfl rfl h89 rfl (Pu.qt (Pu.move rfl)) rfl <| O.gq (t := 47) rfl rfl h89 rfl (Pu.qt (Pu.not rfl)) rfl <| O.p (Pu.pickF rfl h89 rfl) rfl <| O.m rfl rfl <| O.gskip (t := 51) rfl rfl (no_bool (by decide)) rfl rfl <| O.gskip (t := 51) rfl rfl (no_bool (by decide)) rfl rfl <| O.p (Pu.pickT rfl rfl rfl) rfl <| O.m rfl rfl <| O.gskip (t := 55) rfl rfl (no_bool (by decide)) rfl rfl <| O.gskip (t := 55) rfl rfl (no_bool (by decide)) rfl rfl <| O.gskip (t := 55) rfl rfl (no_bool (by decide)) rfl rfl <| O.gskip (t := 55) rfl rfl (no_bool (by decide)) rfl rfl ?_
     refine O.gskip (t := 55) rfl rfl (no_bool (by decide)) rfl rfl <| O.p (Pu.pickT rfl rfl rfl) rfl <| O.nil <| J.condT rfl rfl <| J.seq <| J.region <| O.a rfl rfl <| O.nil ?_
     exact J.ret (Fin.ret (rs := [.tmp 8]) rfl [_] ⟨rfl, trivial⟩ [] (by decide) [] rfl ⟨(by rw [Cf.check_no13 (by simp only [*, Bool.and_true, Bool.and_false, Bool.true_and, Bool.false_and])]; rfl), rfl⟩)
  ·
   refine O.gskip (t := 32) rfl rfl (no_bool (by rw [h82]; decide)) rfl rfl <| O.gskip (t := 32) rfl rfl (no_bool (by rw [h82]; decide)) rfl rfl <| O.gskip (t := 32) rfl rfl (no_bool (by rw [h82]; decide)) rfl rfl <| O.p (Pu.pickF rfl h82 rfl) rfl <| O.a rfl rfl <| O.nil <| J.seq <| J.seq <| J.region <| O.m rfl rfl <| O.l (Lo.call [.int .i64 services, .int .i64 1, .int .i64 8] (by exact call57) rfl (cf_from services 1 8) [] [0] (by decide) rfl [var g1 [.int .i64 x0, .int .i64 x1, .int .i64 x2, .int .i64 x3, .int .i64 x4, .int .i64 x5, .int .i64 x6, .int .i64 x7, .int .i64 x8, .int .i64 x9, .int .i64 x10, .int .i64 x11, .int .i64 x12, cv] 47] rfl RoOk.nil) rfl ?_
   rintro _ _ ⟨_, ⟨rfl, rfl⟩, rfl⟩
   refine O.p (Pu.not rfl) rfl <| O.m rfl rfl ?_
   refine by_bool (!(Cf.from_ services 1 8)) (fun h93 => ?_) (fun h93 => ?_)
   ·
    have h94 : (Cf.from_ services 1 8) = false := not_flip h93
    refine O.gskip (t := 40) rfl rfl (no_bool (by rw [h93]; decide)) rfl rfl <| O.gskip (t := 40) rfl rfl (no_bool (by rw [h93]; decide)) rfl rfl <| O.gskip (t := 40) rfl rfl (no_bool (by rw [h93]; decide)) rfl rfl <| O.gskip (t := 40) rfl rfl (no_bool (by rw [h93]; decide)) rfl rfl <| O.gskip (t := 40) rfl rfl (no_bool (by rw [h93]; decide)) rfl rfl <| O.p (Pu.pickT rfl h93 rfl) rfl <| O.m rfl rfl <| O.gskip (t := 47) rfl rfl (no_bool (by decide)) rfl rfl <| O.gskip (t := 47) rfl rfl (no_bool (by decide)) rfl rfl <| O.p (Pu.pickT rfl rfl rfl) rfl <| O.m rfl rfl <| O.gskip (t := 51) rfl rfl (no_bool (by decide)) rfl rfl ?_
    refine O.gskip (t := 51) rfl rfl (no_bool (by decide)) rfl rfl <| O.p (Pu.pickT rfl rfl rfl) rfl <| O.m rfl rfl <| O.gskip (t := 55) rfl rfl (no_bool (by decide)) rfl rfl <| O.gskip (t := 55) rfl rfl (no_bool (by decide)) rfl rfl <| O.gskip (t := 55) rfl rfl (no_bool (by decide)) rfl rfl <| O.gskip (t := 55) rfl rfl (no_bool (by decide)) rfl rfl <| O.gskip (t := 55) rfl rfl (no_bool (by decide)) rfl rfl <| O.p (Pu.pickT rfl rfl rfl) rfl <| O.nil <| J.condT rfl rfl <| J.seq ?_
    refine J.region <| O.a rfl rfl <| O.nil ?_
    exact J.ret (Fin.ret (rs := [.tmp 8]) rfl [_] ⟨rfl, trivial⟩ [] (by decide) [] rfl ⟨(by rw [Cf.check_no13 (by simp only [*, Bool.and_true, Bool.and_false, Bool.true_and, Bool.false_and])]; rfl), rfl⟩)
   ·
    have h95 : (Cf.from_ services 1 8) = true := not_flip h93
    refine O.gq (t := 40) rfl rfl h93 rfl (Pu.qt (Pu.move rfl)) rfl <| O.gq (t := 40) rfl rfl h93 rfl (Pu.qt (Pu.move rfl)) rfl <| O.gq (t := 40) rfl rfl h93 rfl (Pu.qt (Pu.sub' rfl rfl (by have h_ := Cf.from_bnd (by assumption : Cf.from_ services 1 8 = true); omega))) rfl <| O.gl (t := 40) rfl rfl h93 rfl (Lo.call [.int .i64 self, .int .i64 0, .int .i64 (services - 1)] (by exact call57) rfl (cf_from self 0 (services - 1)) [] [0] (by decide) rfl [var g1 [.int .i64 x0, .int .i64 x1, .int .i64 x2, .int .i64 x3, .int .i64 x4, .int .i64 x5, .int .i64 x6, .int .i64 x7, .int .i64 x8, .int .i64 x9, .int .i64 x10, .int .i64 x11, .int .i64 x12, cv] 47] rfl RoOk.nil) rfl ?_
    rintro _ _ ⟨_, ⟨rfl, rfl⟩, rfl⟩
    refine O.gq (t := 40) rfl rfl h93 rfl (Pu.qt (Pu.not rfl)) rfl <| O.p (Pu.pickF rfl h93 rfl) rfl <| O.m rfl rfl ?_
    refine by_bool (!(Cf.from_ self 0 (services - 1))) (fun h97 => ?_) (fun h97 => ?_)
    ·
     have h98 : (Cf.from_ self 0 (services - 1)) = false := not_flip h97
     refine O.gskip (t := 47) rfl rfl (no_bool (by rw [h97]; decide)) rfl rfl <| O.gskip (t := 47) rfl rfl (no_bool (by rw [h97]; decide)) rfl rfl <| O.p (Pu.pickT rfl h97 rfl) rfl <| O.m rfl rfl <| O.gskip (t := 51) rfl rfl (no_bool (by decide)) rfl rfl <| O.gskip (t := 51) rfl rfl (no_bool (by decide)) rfl rfl <| O.p (Pu.pickT rfl rfl rfl) rfl <| O.m rfl rfl <| O.gskip (t := 55) rfl rfl (no_bool (by decide)) rfl rfl <| O.gskip (t := 55) rfl rfl (no_bool (by decide)) rfl rfl <| O.gskip (t := 55) rfl rfl (no_bool (by decide)) rfl rfl <| O.gskip (t := 55) rfl rfl (no_bool (by decide)) rfl rfl ?_
     refine O.gskip (t := 55) rfl rfl (no_bool (by decide)) rfl rfl <| O.p (Pu.pickT rfl rfl rfl) rfl <| O.nil <| J.condT rfl rfl <| J.seq <| J.region <| O.a rfl rfl <| O.nil ?_
     exact J.ret (Fin.ret (rs := [.tmp 8]) rfl [_] ⟨rfl, trivial⟩ [] (by decide) [] rfl ⟨(by rw [Cf.check_no13 (by simp only [*, Bool.and_true, Bool.and_false, Bool.true_and, Bool.false_and])]; rfl), rfl⟩)
    ·
     have h99 : (Cf.from_ self 0 (services - 1)) = true := not_flip h97
     refine O.gq (t := 47) rfl rfl h97 rfl (Pu.qt (Pu.move rfl)) rfl <| O.gq (t := 47) rfl rfl h97 rfl (Pu.qt (Pu.not rfl)) rfl <| O.p (Pu.pickF rfl h97 rfl) rfl <| O.m rfl rfl <| O.gskip (t := 51) rfl rfl (no_bool (by decide)) rfl rfl <| O.gskip (t := 51) rfl rfl (no_bool (by decide)) rfl rfl <| O.p (Pu.pickT rfl rfl rfl) rfl <| O.m rfl rfl <| O.gskip (t := 55) rfl rfl (no_bool (by decide)) rfl rfl <| O.gskip (t := 55) rfl rfl (no_bool (by decide)) rfl rfl <| O.gskip (t := 55) rfl rfl (no_bool (by decide)) rfl rfl <| O.gskip (t := 55) rfl rfl (no_bool (by decide)) rfl rfl ?_
     refine O.gskip (t := 55) rfl rfl (no_bool (by decide)) rfl rfl <| O.p (Pu.pickT rfl rfl rfl) rfl <| O.nil <| J.condT rfl rfl <| J.seq <| J.region <| O.a rfl rfl <| O.nil ?_
     exact J.ret (Fin.ret (rs := [.tmp 8]) rfl [_] ⟨rfl, trivial⟩ [] (by decide) [] rfl ⟨(by rw [Cf.check_no13 (by simp only [*, Bool.and_true, Bool.and_false, Bool.true_and, Bool.false_and])]; rfl), rfl⟩)

end Go.Proofs.YtnhfgnnpbipcnaaGreatDoor
