/-
  Walks, printed by a program of mine (lk.py): each function meets its contract.
-/
import Derived.KernelRfl
import Derived.Test.YtnkhmbbnabejhaaVX1
import Derived.Test.YtnkhmbbnabejhaaNumsA
namespace Go.Proofs.Ytnkhmbbnabejhaa
open Go Go.LK
set_option linter.unusedSimpArgs false

set_option maxRecDepth 100000 in
theorem n01_Same (av bv : Value) (l m : List Int) (hl : l.length ≤ 100000) (hm : m.length ≤ 100000) : Tri Try.prog 23 #[av, bv] [rd av 1 (l.map encZ), rd bv 1 (m.map encZ)] [] (fun v L' => v = .bool (decide (l = m)) ∧ L' = []) := by
 refine Tri.enter (args := [av, bv]) (body := _) 32 Try.func23 rfl Try.ntmps23 rfl ?_
 intro w0
 refine J.seq ?_
 refine J.region ?_
 refine O.p (Pu.assign rfl) rfl ?_
 refine O.nil ?_
 refine J.seq ?_
 refine J.seq ?_
 refine J.region ?_
 refine O.p (Pu.move rfl) rfl ?_
 refine O.q (Qt.lenM Try.runUnderlying24 rfl (Src.ro 0 rfl)) rfl ?_
 refine O.p (Pu.move rfl) rfl ?_
 refine O.q (Qt.lenM Try.runUnderlying24 rfl (Src.ro 1 rfl)) rfl ?_
 refine O.p (Pu.neq rfl rfl) rfl ?_
 refine O.nil ?_
 refine J.cond rfl (fun h1 => ?_) (fun h1 => ?_)
 ·
  have p2 := of_decide_eq_true h1
  refine J.seq ?_
  refine J.region ?_
  refine O.p (Pu.assign rfl) rfl ?_
  refine O.nil ?_
  exact J.ret (Fin.ret (rs := [.tmp 4]) rfl [_] ⟨rfl, trivial⟩ [] (by decide) [] rfl ⟨(by have h_ : l ≠ m := (fun h_ => by subst h_; omega); simp [h_, vOf]), rfl⟩)
 ·
  have p3 := of_decide_eq_false h1
  refine J.skip ?_
  refine J.seq ?_
  refine J.seq ?_
  refine J.region ?_
  refine O.p (Pu.assign rfl) rfl ?_
  refine O.nil ?_
  refine J.block ?_
  refine J.loop (X := Nat) (fun ξ => ξ ≤ l.length ∧ l.length = m.length ∧ l.take ξ = m.take ξ) (fun ξ => [(0, av), (1, bv), (5, .int .i64 (ξ : Int))]) (fun ξ => []) (fun ξ => l.length - ξ) 0 (show 0 ≤ l.length ∧ l.length = m.length ∧ l.take 0 = m.take 0 from ⟨by omega, by omega, rfl⟩) ⟨rfl, rfl, (congrArg (fun z => some (Value.int .i64 z)) (by first | rfl | omega : (0 : Int) = (0 : Int))), trivial⟩ [] (by decide) rfl ?_
  rintro k hq4
  obtain ⟨hk, hlm, hst⟩ : k ≤ l.length ∧ l.length = m.length ∧ l.take k = m.take k := hq4
  show J _ _ [(0, av), (1, bv), (5, .int .i64 (k : Int))] []
  refine J.seq ?_
  refine J.seq ?_
  refine J.region ?_
  refine O.p (Pu.move rfl) rfl ?_
  refine O.p (Pu.move rfl) rfl ?_
  refine O.q (Qt.lenM Try.runUnderlying24 rfl (Src.ro 0 rfl)) rfl ?_
  refine O.p (Pu.lss rfl rfl) rfl ?_
  refine O.p (Pu.move rfl) rfl ?_
  refine by_bool (decide ((k : Int) < (l.length : Int))) (fun h5 => ?_) (fun h5 => ?_)
  ·
   have p6 := of_decide_eq_true h5
   refine O.gq (t := 15) rfl rfl h5 rfl (Pu.qt (Pu.move rfl)) rfl ?_
   refine O.gq (t := 15) rfl rfl h5 rfl (Pu.qt (Pu.move rfl)) rfl ?_
   refine O.gq (t := 15) rfl rfl h5 rfl (Qt.lenM Try.runUnderlying24 rfl (Src.ro 1 rfl)) rfl ?_
   refine O.gq (t := 15) rfl rfl h5 rfl (Pu.qt (Pu.lss rfl rfl)) rfl ?_
   refine O.p (Pu.pickT rfl h5 rfl) rfl ?_
   refine O.nil ?_
   refine J.condT rfl (decide_eq_true (by omega)) ?_
   refine J.skip ?_
   refine J.seq ?_
   refine J.block ?_
   refine J.seq ?_
   refine J.drawStill Try.mixed (by kernel_rfl) ?_
   refine S.p (Pu.move rfl) rfl ?_
   refine S.p (Pu.move rfl) rfl ?_
   obtain ⟨e7, he7⟩ : ∃ x_, l[k]? = some x_ := ⟨_, List.getElem?_eq_getElem (by omega)⟩
   refine S.q (Qt.idxM Try.runUnderlying24 Try.sizeOf3 rfl (Src.ro 0 rfl) rfl (by omega) (by omega)) rfl ?_
   refine S.q (Qt.ld rfl (Cel.eltM (Src.ro 0 rfl) he7) (o := (voff av + k * 1)) (off := 0) (by omega) (Cut.one Try.isAgg3 rfl)) rfl ?_
   refine S.p (Pu.move rfl) rfl ?_
   refine S.p (Pu.move rfl) rfl ?_
   obtain ⟨e8, he8⟩ : ∃ x_, m[k]? = some x_ := ⟨_, List.getElem?_eq_getElem (by omega)⟩
   refine S.q (Qt.idxM Try.runUnderlying24 Try.sizeOf3 rfl (Src.ro 1 rfl) rfl (by omega) (by omega)) rfl ?_
   refine S.q (Qt.ld rfl (Cel.eltM (Src.ro 1 rfl) he8) (o := (voff bv + k * 1)) (off := 0) (by omega) (Cut.one Try.isAgg3 rfl)) rfl ?_
   refine S.p (Pu.neq rfl rfl) rfl ?_
   refine S.endJ ?_
   refine J.cond rfl (fun h9 => ?_) (fun h9 => ?_)
   ·
    have p10 := of_decide_eq_true h9
    refine J.seq ?_
    refine J.region ?_
    refine O.p (Pu.assign rfl) rfl ?_
    refine O.nil ?_
    exact J.ret (Fin.ret (rs := [.tmp 4]) rfl [_] ⟨rfl, trivial⟩ [] (by decide) [] rfl ⟨(by have h_ : l ≠ m := (fun h_ => by subst h_; have h2_ := he7.symm.trans he8; cases h2_; omega); simp [h_, vOf]), rfl⟩)
   ·
    have p11 := of_decide_eq_false h9
    refine J.skip ?_
    refine J.blk ?_
    refine J.region ?_
    refine O.p (Pu.move rfl) rfl ?_
    refine O.p (Pu.add' rfl rfl (by first | omega | (simp only [List.length_append, List.length_cons, List.length_nil, List.length_set]; omega))) rfl ?_
    refine O.p (Pu.assign rfl) rfl ?_
    refine O.nil ?_
    exact J.lp (k + 1) (show (k + 1) ≤ l.length ∧ l.length = m.length ∧ l.take (k + 1) = m.take (k + 1) from ⟨by omega, hlm, (by rw [List.take_add_one, List.take_add_one, hst, he7, he8, (Decidable.not_not.1 ‹_› : e7 = e8)])⟩) (show l.length - (k + 1) < l.length - k from (by omega)) ⟨rfl, rfl, (congrArg (fun z => some (Value.int .i64 z)) (by first | rfl | omega : ((k : Int) + 1 : Int) = ((k + 1) : Int))), trivial⟩ [] (by decide) rfl
  ·
   have p12 := of_decide_eq_false h5
   refine O.gskip (t := 15) rfl rfl (no_bool (by rw [h5]; decide)) rfl rfl ?_
   refine O.gskip (t := 15) rfl rfl (no_bool (by rw [h5]; decide)) rfl rfl ?_
   refine O.gskip (t := 15) rfl rfl (no_bool (by rw [h5]; decide)) rfl rfl ?_
   refine O.gskip (t := 15) rfl rfl (no_bool (by rw [h5]; decide)) rfl rfl ?_
   refine O.p (Pu.pickF rfl h5 rfl) rfl ?_
   refine O.nil ?_
   refine J.condF rfl rfl ?_
   refine J.exit _ rfl ?_
   refine J.seq ?_
   refine J.region ?_
   refine O.p (Pu.assign rfl) rfl ?_
   refine O.nil ?_
   exact J.ret (Fin.ret (rs := [.tmp 4]) rfl [_] ⟨rfl, trivial⟩ [] (by decide) [] rfl ⟨(by have h_ : l = m := (by rw [List.take_of_length_le (by omega), List.take_of_length_le (by omega)] at hst; exact hst); simp [h_, vOf]), rfl⟩)

end Go.Proofs.Ytnkhmbbnabejhaa
