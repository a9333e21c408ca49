/-
  Walks, printed by a program of mine (lk.py): each function meets its contract.
-/
import Derived.KernelRfl
import Derived.Test.YtcojpllfkobkeaaDoorLV4
import Derived.Test.YtcojpllfkobkeaaDoorLk19
import Derived.Test.YtcojpllfkobkeaaDoorLevel2
namespace Go.Proofs.YtcojpllfkobkeaaDoor
open Go Go.LK
set_option linter.unusedSimpArgs false

set_option maxRecDepth 100000 in
theorem r05_Text (n : Int) (hn : Dc.I64 n) : Tri Tryd.prog 20 #[.int .i64 n] [] [] (fun v L' => v = str (Lib.itoa n) ∧ L' = []) := by
  refine Tri.enter (args := [.int .i64 n]) (body := _) 33 Tryd.func20 rfl Tryd.ntmps20 rfl ?_
  intro w0
  refine J.seq ?_
  refine J.region ?_
  refine O.p (Pu.assign rfl) rfl ?_
  refine O.nil ?_
  refine J.seq ?_
  refine J.seq ?_
  refine J.region ?_
  refine O.p (Pu.move rfl) rfl ?_
  refine O.p (Pu.eql rfl rfl) rfl ?_
  refine O.nil ?_
  refine J.cond rfl (fun h1 => ?_) (fun h1 => ?_)
  ·
    have p2 := of_decide_eq_true h1
    refine J.seq ?_
    refine J.region ?_
    refine O.p (Pu.assign rfl) rfl ?_
    refine O.nil ?_
    exact J.ret (Fin.ret (rs := [.tmp 2]) rfl [_] ⟨rfl, trivial⟩ [] (by decide) [] rfl ⟨(by have hn0 : n = 0 := (by omega); subst hn0; rw [Dc.itoa_zero]; rfl), rfl⟩)
  ·
    have p3 := of_decide_eq_false h1
    refine J.skip ?_
    refine J.seq ?_
    refine J.region ?_
    refine O.p (Pu.move rfl) rfl ?_
    refine O.p (Pu.assign rfl) rfl ?_
    refine O.p (Pu.assign rfl) rfl ?_
    refine O.nil ?_
    refine J.seq ?_
    refine J.block ?_
    refine J.loop (X := Int × List UInt8) (fun ξ => Dc.I64 ξ.1 ∧ Dc.dig ξ.1 ++ ξ.2 = Dc.dig n) (fun ξ => [(0, .int .i64 n), (2, str ([] : List UInt8)), (3, str ξ.2), (4, .int .i64 ξ.1)]) (fun ξ => []) (fun ξ => ξ.1.natAbs) ⟨n, ([] : List UInt8)⟩ (show Dc.I64 n ∧ Dc.dig n ++ ([] : List UInt8) = Dc.dig n from ⟨hn, by simp⟩) ⟨rfl, rfl, rfl, rfl, trivial⟩ [] (by decide) rfl ?_
    rintro ⟨k, t⟩ hq4
    obtain ⟨hk, hst⟩ : Dc.I64 k ∧ Dc.dig k ++ t = Dc.dig n := hq4
    show J _ _ [(0, .int .i64 n), (2, str ([] : List UInt8)), (3, str t), (4, .int .i64 k)] []
    refine J.seq ?_
    refine J.seq ?_
    refine J.region ?_
    refine O.p (Pu.move rfl) rfl ?_
    refine O.p (Pu.neq rfl rfl) rfl ?_
    refine O.nil ?_
    refine J.cond rfl (fun h5 => ?_) (fun h5 => ?_)
    ·
      have p6 := of_decide_eq_true h5
      refine J.skip ?_
      refine J.block ?_
      refine J.seq ?_
      refine J.region ?_
      refine O.p (Pu.move rfl) rfl ?_
      refine O.p (Pu.move rfl) rfl ?_
      refine O.p (Pu.to (Pu.quo rfl rfl (by first | omega | (have h_ := Dc.t_parts k; have h2_ : Dc.I64 k := hk; unfold Dc.I64 at h2_; omega))) (congrArg (Value.int .i64) (Dc.quo_wrap hk))) rfl ?_
      refine O.p (Pu.mul' rfl rfl (by first | omega | (have h_ := Dc.t_parts k; have h2_ : Dc.I64 k := hk; unfold Dc.I64 at h2_; omega))) rfl ?_
      refine O.p (Pu.to (Pu.sub' rfl rfl (by first | omega | (have h_ := Dc.t_parts k; have h2_ : Dc.I64 k := hk; unfold Dc.I64 at h2_; omega))) (congrArg (Value.int .i64) Dc.low)) rfl ?_
      refine O.p (Pu.assign rfl) rfl ?_
      refine O.nil ?_
      refine J.seq ?_
      refine J.seq ?_
      refine J.region ?_
      refine O.p (Pu.move rfl) rfl ?_
      refine O.p (Pu.lss rfl rfl) rfl ?_
      refine O.nil ?_
      refine J.cond rfl (fun h7 => ?_) (fun h7 => ?_)
      ·
        have p8 := of_decide_eq_true h7
        refine J.region ?_
        refine O.p (Pu.move rfl) rfl ?_
        refine O.p (Pu.to (Pu.neg rfl) (congrArg (Value.int .i64) Dc.neg_wrap)) rfl ?_
        refine O.p (Pu.assign rfl) rfl ?_
        refine O.nil ?_
        refine J.seq ?_
        refine J.region ?_
        refine O.p (Pu.move rfl) rfl ?_
        refine O.p (Pu.move rfl) rfl ?_
        refine O.p (Pu.add' rfl rfl (by first | omega | (have h_ := Dc.t_parts k; have h2_ : Dc.I64 k := hk; unfold Dc.I64 at h2_; omega))) rfl ?_
        refine O.p (Pu.sCut Tryd.runUnderlying9 rfl rfl rfl (by first | omega | (have h_ := Dc.t_parts k; have h2_ : Dc.I64 k := hk; unfold Dc.I64 at h2_; simp only [List.length_cons, List.length_nil]; omega) | (have h_ := Dc.t_parts k; have h2_ : Dc.I64 k := hk; unfold Dc.I64 at h2_; omega)) (by first | omega | (have h_ := Dc.t_parts k; have h2_ : Dc.I64 k := hk; unfold Dc.I64 at h2_; simp only [List.length_cons, List.length_nil]; omega) | (have h_ := Dc.t_parts k; have h2_ : Dc.I64 k := hk; unfold Dc.I64 at h2_; omega)) (by first | omega | (have h_ := Dc.t_parts k; have h2_ : Dc.I64 k := hk; unfold Dc.I64 at h2_; simp only [List.length_cons, List.length_nil]; omega) | (have h_ := Dc.t_parts k; have h2_ : Dc.I64 k := hk; unfold Dc.I64 at h2_; omega))) rfl ?_
        refine O.p (Pu.move rfl) rfl ?_
        refine O.p (Pu.sAdd rfl rfl (by have h_ := Dc.short hn hst; simp only [List.length_append, List.length_take, List.length_drop, List.length_cons, List.length_nil]; omega)) rfl ?_
        refine O.p (Pu.assign rfl) rfl ?_
        refine O.nil ?_
        refine J.region ?_
        refine O.p (Pu.move rfl) rfl ?_
        refine O.p (Pu.to (Pu.quo rfl rfl (by first | omega | (have h_ := Dc.t_parts k; have h2_ : Dc.I64 k := hk; unfold Dc.I64 at h2_; omega))) (congrArg (Value.int .i64) (Dc.quo_wrap hk))) rfl ?_
        refine O.p (Pu.assign rfl) rfl ?_
        refine O.nil ?_
        refine J.blk ?_
        exact J.lp ⟨Int.tdiv k 10, ((([48, 49, 50, 51, 52, 53, 54, 55, 56, 57]).drop (-(Int.tmod k 10)).toNat).take (((-(Int.tmod k 10)) + 1).toNat - (-(Int.tmod k 10)).toNat)) ++ t⟩ (show Dc.I64 (Int.tdiv k 10) ∧ Dc.dig (Int.tdiv k 10) ++ (((([48, 49, 50, 51, 52, 53, 54, 55, 56, 57]).drop (-(Int.tmod k 10)).toNat).take (((-(Int.tmod k 10)) + 1).toNat - (-(Int.tmod k 10)).toNat)) ++ t) = Dc.dig n from ⟨Dc.quo_I64 hk, Dc.text_step (by omega) (by have h_ := Dc.t_parts k; omega) (by omega) hst⟩) (show (Int.tdiv k 10).natAbs < k.natAbs from (by have h_ := Dc.t_parts k; omega)) ⟨rfl, rfl, rfl, rfl, trivial⟩ [] (by decide) rfl
      ·
        have p9 := of_decide_eq_false h7
        refine J.skip ?_
        refine J.seq ?_
        refine J.region ?_
        refine O.p (Pu.move rfl) rfl ?_
        refine O.p (Pu.move rfl) rfl ?_
        refine O.p (Pu.add' rfl rfl (by first | omega | (have h_ := Dc.t_parts k; have h2_ : Dc.I64 k := hk; unfold Dc.I64 at h2_; omega))) rfl ?_
        refine O.p (Pu.sCut Tryd.runUnderlying9 rfl rfl rfl (by first | omega | (have h_ := Dc.t_parts k; have h2_ : Dc.I64 k := hk; unfold Dc.I64 at h2_; simp only [List.length_cons, List.length_nil]; omega) | (have h_ := Dc.t_parts k; have h2_ : Dc.I64 k := hk; unfold Dc.I64 at h2_; omega)) (by first | omega | (have h_ := Dc.t_parts k; have h2_ : Dc.I64 k := hk; unfold Dc.I64 at h2_; simp only [List.length_cons, List.length_nil]; omega) | (have h_ := Dc.t_parts k; have h2_ : Dc.I64 k := hk; unfold Dc.I64 at h2_; omega)) (by first | omega | (have h_ := Dc.t_parts k; have h2_ : Dc.I64 k := hk; unfold Dc.I64 at h2_; simp only [List.length_cons, List.length_nil]; omega) | (have h_ := Dc.t_parts k; have h2_ : Dc.I64 k := hk; unfold Dc.I64 at h2_; omega))) rfl ?_
        refine O.p (Pu.move rfl) rfl ?_
        refine O.p (Pu.sAdd rfl rfl (by have h_ := Dc.short hn hst; simp only [List.length_append, List.length_take, List.length_drop, List.length_cons, List.length_nil]; omega)) rfl ?_
        refine O.p (Pu.assign rfl) rfl ?_
        refine O.nil ?_
        refine J.region ?_
        refine O.p (Pu.move rfl) rfl ?_
        refine O.p (Pu.to (Pu.quo rfl rfl (by first | omega | (have h_ := Dc.t_parts k; have h2_ : Dc.I64 k := hk; unfold Dc.I64 at h2_; omega))) (congrArg (Value.int .i64) (Dc.quo_wrap hk))) rfl ?_
        refine O.p (Pu.assign rfl) rfl ?_
        refine O.nil ?_
        refine J.blk ?_
        exact J.lp ⟨Int.tdiv k 10, ((([48, 49, 50, 51, 52, 53, 54, 55, 56, 57]).drop (Int.tmod k 10).toNat).take (((Int.tmod k 10) + 1).toNat - (Int.tmod k 10).toNat)) ++ t⟩ (show Dc.I64 (Int.tdiv k 10) ∧ Dc.dig (Int.tdiv k 10) ++ (((([48, 49, 50, 51, 52, 53, 54, 55, 56, 57]).drop (Int.tmod k 10).toNat).take (((Int.tmod k 10) + 1).toNat - (Int.tmod k 10).toNat)) ++ t) = Dc.dig n from ⟨Dc.quo_I64 hk, Dc.text_step (by omega) (by have h_ := Dc.t_parts k; omega) (by omega) hst⟩) (show (Int.tdiv k 10).natAbs < k.natAbs from (by have h_ := Dc.t_parts k; omega)) ⟨rfl, rfl, rfl, rfl, trivial⟩ [] (by decide) rfl
    ·
      have p10 := of_decide_eq_false h5
      refine J.exit _ rfl ?_
      refine J.seq ?_
      refine J.seq ?_
      refine J.region ?_
      refine O.p (Pu.move rfl) rfl ?_
      refine O.p (Pu.lss rfl rfl) rfl ?_
      refine O.nil ?_
      refine J.cond rfl (fun h11 => ?_) (fun h11 => ?_)
      ·
        have p12 := of_decide_eq_true h11
        refine J.region ?_
        refine O.p (Pu.move rfl) rfl ?_
        refine O.p (Pu.sAdd rfl rfl (by have h_ := Dc.short hn hst; simp only [List.length_append, List.length_take, List.length_drop, List.length_cons, List.length_nil]; omega)) rfl ?_
        refine O.p (Pu.assign rfl) rfl ?_
        refine O.nil ?_
        refine J.seq ?_
        refine J.region ?_
        refine O.p (Pu.move rfl) rfl ?_
        refine O.p (Pu.assign rfl) rfl ?_
        refine O.nil ?_
        exact J.ret (Fin.ret (rs := [.tmp 2]) rfl [_] ⟨rfl, trivial⟩ [] (by decide) [] rfl ⟨(by have hk0 : k = 0 := (by omega); subst hk0; rw [Dc.text_neg (by omega) hst]; rfl), rfl⟩)
      ·
        have p13 := of_decide_eq_false h11
        refine J.skip ?_
        refine J.seq ?_
        refine J.region ?_
        refine O.p (Pu.move rfl) rfl ?_
        refine O.p (Pu.assign rfl) rfl ?_
        refine O.nil ?_
        exact J.ret (Fin.ret (rs := [.tmp 2]) rfl [_] ⟨rfl, trivial⟩ [] (by decide) [] rfl ⟨(by have hk0 : k = 0 := (by omega); subst hk0; rw [Dc.text_pos (by omega) (by omega) hst]; rfl), rfl⟩)

end Go.Proofs.YtcojpllfkobkeaaDoor
