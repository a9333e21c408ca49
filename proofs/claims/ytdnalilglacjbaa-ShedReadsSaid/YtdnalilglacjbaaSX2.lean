/-
  Walks, printed by a program of mine (lk.py): each function meets its contract.
-/
import Derived.KernelRfl
import Derived.Test.YtdnalilglacjbaaSX1
namespace Go.Proofs.Ytdnalilglacjbaa
open Go Go.LK
set_option linter.unusedSimpArgs false

set_option maxRecDepth 100000 in
theorem r21_Find (kv : Value) (m : List Kw) (to : Int) (hm : m.length ≤ 1000) : Tri Try.prog 22 #[kv, .int .i64 to] [rd kv 4 (m.map Kw.cells)] [] (fun v L' => v = .int .i64 (Sh.fnd m to) ∧ L' = []) := by
 refine Tri.enter (args := [kv, .int .i64 to]) (body := _) 20 Try.func22 rfl Try.ntmps22 rfl ?_
 intro w0
 refine J.seq ?_
 refine J.region ?_
 refine O.p (Pu.assign rfl) rfl ?_
 refine O.nil ?_
 refine J.seq ?_
 refine J.seq ?_
 refine J.region ?_
 refine O.p (Pu.assign rfl) rfl ?_
 refine O.nil ?_
 refine J.block ?_
 refine J.loop (X := Nat) (fun ξ => ξ ≤ m.length ∧ ∀ (j : Nat) (x : Kw), j < ξ → m[j]? = some x → ¬ x.to = to) (fun ξ => [(0, kv), (1, .int .i64 to), (5, .int .i64 (ξ : Int))]) (fun ξ => []) (fun ξ => m.length - ξ) 0 (show 0 ≤ m.length ∧ ∀ (j : Nat) (x : Kw), j < 0 → m[j]? = some x → ¬ x.to = to from ⟨by omega, fun j x h => absurd h (Nat.not_lt_zero j)⟩) ⟨rfl, rfl, (congrArg (fun z => some (Value.int .i64 z)) (by first | rfl | omega : (0 : Int) = (0 : Int))), trivial⟩ [] (by decide) rfl ?_
 rintro k hq1
 obtain ⟨hk, hno⟩ : k ≤ m.length ∧ ∀ (j : Nat) (x : Kw), j < k → m[j]? = some x → ¬ x.to = to := hq1
 show J _ _ [(0, kv), (1, .int .i64 to), (5, .int .i64 (k : Int))] []
 refine J.seq ?_
 refine J.seq ?_
 refine J.region ?_
 refine O.p (Pu.move rfl) rfl ?_
 refine O.p (Pu.move rfl) rfl ?_
 refine O.q (Qt.lenM Try.runUnderlying38 rfl (Src.ro 0 rfl)) rfl ?_
 refine O.p (Pu.lss rfl rfl) rfl ?_
 refine O.nil ?_
 refine J.cond rfl (fun h2 => ?_) (fun h2 => ?_)
 ·
  have p3 := of_decide_eq_true h2
  refine J.skip ?_
  refine J.seq ?_
  refine J.block ?_
  refine J.seq ?_
  refine J.region ?_
  refine O.p (Pu.move rfl) rfl ?_
  refine O.p (Pu.move rfl) rfl ?_
  obtain ⟨e4, he4⟩ : ∃ x_, m[k]? = some x_ := ⟨_, List.getElem?_eq_getElem (by omega)⟩
  refine O.q (Qt.idxM Try.runUnderlying38 Try.sizeOf30 rfl (Src.ro 0 rfl) rfl (by omega) (by omega)) rfl ?_
  refine O.p (Pu.fieldAddr (off' := voff kv + ((k : Int)).toNat * 4 + 0) Try.runUnderlying30 rfl Try.sizeOf3 rfl rfl rfl) rfl ?_
  refine O.q (Qt.ld rfl (Cel.eltM (Src.ro 0 rfl) he4) (o := (voff kv + k * 4)) (off := 0) (by omega) (Cut.one Try.isAgg3 rfl)) rfl ?_
  refine O.p (Pu.move rfl) rfl ?_
  refine O.p (Pu.eql rfl rfl) rfl ?_
  refine O.nil ?_
  refine J.cond rfl (fun h5 => ?_) (fun h5 => ?_)
  ·
   have p6 := of_decide_eq_true h5
   refine J.seq ?_
   refine J.region ?_
   refine O.p (Pu.move rfl) rfl ?_
   refine O.p (Pu.assign rfl) rfl ?_
   refine O.nil ?_
   exact J.ret (Fin.ret (rs := [.tmp 4]) rfl [_] ⟨rfl, trivial⟩ [] (by decide) [] rfl ⟨(by rw [Sh.fnd_hit hno he4 ‹_›]; rfl), rfl⟩)
  ·
   have p7 := of_decide_eq_false h5
   refine J.skip ?_
   refine J.blk ?_
   refine J.region ?_
   refine O.p (Pu.move rfl) rfl ?_
   refine O.p (Pu.add' rfl rfl (by first | omega | (simp only [List.length_append, List.length_cons, List.length_nil, List.length_set]; omega))) rfl ?_
   refine O.p (Pu.assign rfl) rfl ?_
   refine O.nil ?_
   exact J.lp (k + 1) (show (k + 1) ≤ m.length ∧ ∀ (j : Nat) (x : Kw), j < (k + 1) → m[j]? = some x → ¬ x.to = to from ⟨by omega, fun j x hj hx => by rcases Nat.lt_or_ge j k with h_ | h_; (· exact hno j x h_ hx); (· have h2_ : j = k := (by omega); subst h2_; rw [he4] at hx; cases hx; assumption)⟩) (show m.length - (k + 1) < m.length - k from (by omega)) ⟨rfl, rfl, (congrArg (fun z => some (Value.int .i64 z)) (by first | rfl | omega : ((k : Int) + 1 : Int) = ((k + 1) : Int))), trivial⟩ [] (by decide) rfl
 ·
  have p8 := of_decide_eq_false h2
  refine J.exit _ rfl ?_
  refine J.seq ?_
  refine J.region ?_
  refine O.p (Pu.assign rfl) rfl ?_
  refine O.nil ?_
  exact J.ret (Fin.ret (rs := [.tmp 4]) rfl [_] ⟨rfl, trivial⟩ [] (by decide) [] rfl ⟨(by rw [Sh.fnd_no fun j x hx => hno j x (by have h_ := (List.getElem?_eq_some_iff.1 hx).1; omega) hx]; rfl), rfl⟩)

set_option maxRecDepth 100000 in
set_option maxHeartbeats 2000000 in
theorem r21_Learn (kv : Value) (d : Sh.Ts) (to thr ep now : Int) (hi : Sh.Inv d) : Tri Try.prog 20 #[kv, .int .i64 to, .int .i64 thr, .int .i64 ep, .int .i64 now] [] [row kv 30 4 ((Sh.row d).map Kw.cells)] (fun v L' => ∃ V', v = .tuple #[V', .bool (Sh.lrn d to thr ep now).2] ∧ L' = [row V' 30 4 ((Sh.row (Sh.lrn d to thr ep now).1).map Kw.cells)]) := by
 have hrl := Sh.row_len d
 refine Tri.enter (args := [kv, .int .i64 to, .int .i64 thr, .int .i64 ep, .int .i64 now]) (body := _) 86 Try.func20 rfl Try.ntmps20 rfl ?_
 intro w0
 refine J.seq ?_
 refine J.region ?_
 refine O.p (Pu.assign rfl) rfl ?_
 refine O.p (Pu.assign rfl) rfl ?_
 refine O.nil ?_
 refine J.seq ?_
 refine J.seq ?_
 refine J.region ?_
 refine O.p (Pu.move rfl) rfl ?_
 refine O.p (Pu.lss rfl rfl) rfl ?_
 refine O.p (Pu.move rfl) rfl ?_
 refine by_bool (decide (to < 0)) (fun h1 => ?_) (fun h1 => ?_)
 ·
  have p2 := of_decide_eq_true h1
  refine O.gskip (t := 19) rfl rfl (no_bool (by rw [h1]; decide)) rfl rfl ?_
  refine O.gskip (t := 19) rfl rfl (no_bool (by rw [h1]; decide)) rfl rfl ?_
  refine O.p (Pu.pickT rfl h1 rfl) rfl ?_
  refine O.nil ?_
  refine J.condT rfl rfl ?_
  refine J.seq ?_
  refine J.region ?_
  refine O.p (Pu.move rfl) rfl ?_
  refine O.p (Pu.assign rfl) rfl ?_
  refine O.p (Pu.assign rfl) rfl ?_
  refine O.nil ?_
  exact J.ret (Fin.ret (rs := [.tmp 10, .tmp 11]) rfl [_, _] ⟨rfl, rfl, trivial⟩ [0] (by decide) [row kv 30 4 ((Sh.row d).map Kw.cells)] rfl ⟨kv, (by rw [Sh.lrn_out (Sh.has_no (by omega))]; rfl), (by rw [Sh.lrn_out (Sh.has_no (by omega))])⟩)
 ·
  have p3 := of_decide_eq_false h1
  refine O.gq (t := 19) rfl rfl h1 rfl (Pu.qt (Pu.move rfl)) rfl ?_
  refine O.gq (t := 19) rfl rfl h1 rfl (Pu.qt (Pu.gtr rfl rfl)) rfl ?_
  refine O.p (Pu.pickF rfl h1 rfl) rfl ?_
  refine O.nil ?_
  refine J.cond rfl (fun h4 => ?_) (fun h4 => ?_)
  ·
   have p5 := of_decide_eq_true h4
   refine J.seq ?_
   refine J.region ?_
   refine O.p (Pu.move rfl) rfl ?_
   refine O.p (Pu.assign rfl) rfl ?_
   refine O.p (Pu.assign rfl) rfl ?_
   refine O.nil ?_
   exact J.ret (Fin.ret (rs := [.tmp 10, .tmp 11]) rfl [_, _] ⟨rfl, rfl, trivial⟩ [0] (by decide) [row kv 30 4 ((Sh.row d).map Kw.cells)] rfl ⟨kv, (by rw [Sh.lrn_out (Sh.has_no (by omega))]; rfl), (by rw [Sh.lrn_out (Sh.has_no (by omega))])⟩)
  ·
   have p6 := of_decide_eq_false h4
   refine J.skip ?_
   refine J.seq ?_
   obtain ⟨tn, rfl⟩ : ∃ tn : Nat, to = (tn : Int) := ⟨to.toNat, by omega⟩
   refine J.region ?_
   refine O.p (Pu.move rfl) rfl ?_
   refine O.p (Pu.move rfl) rfl ?_
   refine O.p (Pu.move rfl) rfl ?_
   refine O.p (Pu.move rfl) rfl ?_
   refine O.l (Lo.call [.int .i64 now] (by exact Try.call32) rfl (r01_Tick now) [] [0] (by decide) rfl [row kv 30 4 ((Sh.row d).map Kw.cells)] rfl RoOk.nil) rfl ?_
   rintro _ _ ⟨_, ⟨rfl, rfl⟩, rfl⟩
   refine O.p (Pu.build [(0, .int .i64 (tn : Int)), (1, .int .i64 thr), (2, .int .i64 ep), (3, .int .i64 (Sh.tick now))] [.int .i64 (tn : Int), .int .i64 thr, .int .i64 ep, .int .i64 (Sh.tick now)] #[(0, 1), (1, 1), (2, 1), (3, 1)] Try.runUnderlying30 Try.zeroValue30 (places30 Try.underlying30) rfl (by kernel_rfl)) rfl ?_
   refine O.l (Lo.alloc [.int .i64 0, .int .i64 0, .int .i64 0, .int .i64 0] (by exact Try.zeroValue30) rfl) rfl ?_
   rintro _ _ ⟨g8, rfl, rfl⟩
   refine O.l0 (Lo.store 0 (vs := [.int .i64 (tn : Int), .int .i64 thr, .int .i64 ep, .int .i64 (Sh.tick now)]) [.int .i64 (tn : Int), .int .i64 thr, .int .i64 ep, .int .i64 (Sh.tick now)] rfl rfl rfl (by exact Try.sizeOf30) rfl rfl rfl rfl rfl) ?_
   rintro _ _ rfl
   refine O.nil ?_
   refine J.seq ?_
   refine J.region ?_
   refine O.p (Pu.move rfl) rfl ?_
   refine O.p (Pu.move rfl) rfl ?_
   refine O.l (Lo.call [kv, .int .i64 (tn : Int)] (by exact Try.call22) rfl (r21_Find kv (Sh.row d) (tn : Int) (by omega)) [] [0, 1] (by decide) rfl [var g8 [.int .i64 (tn : Int), .int .i64 thr, .int .i64 ep, .int .i64 (Sh.tick now)] 30, row kv 30 4 ((Sh.row d).map Kw.cells)] rfl (RoOk.of 1 rfl row_rd [] (by decide) rfl RoOk.nil)) rfl ?_
   rintro _ _ ⟨_, ⟨rfl, rfl⟩, rfl⟩
   refine O.p (Pu.assign rfl) rfl ?_
   refine O.nil ?_
   refine J.seq ?_
   refine J.seq ?_
   rcases Sh.fnd_row0 (j := tn) hi (by omega) with ⟨hf5, hd5⟩ | ⟨i5, x5, hf5, hx5, hd5⟩
   ·
    rw [hf5]
    refine J.region ?_
    refine O.p (Pu.move rfl) rfl ?_
    refine O.p (Pu.geq rfl rfl) rfl ?_
    refine O.p (Pu.move rfl) rfl ?_
    refine O.gskip (t := 35) rfl rfl (no_bool (by decide)) rfl rfl ?_
    refine O.gskip (t := 35) rfl rfl (no_bool (by decide)) rfl rfl ?_
    refine O.gskip (t := 35) rfl rfl (no_bool (by decide)) rfl rfl ?_
    refine O.gskip (t := 35) rfl rfl (no_bool (by decide)) rfl rfl ?_
    refine O.gskip (t := 35) rfl rfl (no_bool (by decide)) rfl rfl ?_
    refine O.gskip (t := 35) rfl rfl (no_bool (by decide)) rfl rfl ?_
    refine O.gskip (t := 35) rfl rfl (no_bool (by decide)) rfl rfl ?_
    refine O.p (Pu.pickF rfl rfl rfl) rfl ?_
    refine O.nil ?_
    refine J.condF rfl rfl ?_
    refine J.skip ?_
    refine J.seq ?_
    refine J.seq ?_
    refine J.region ?_
    refine O.p (Pu.move rfl) rfl ?_
    refine O.p (Pu.geq rfl rfl) rfl ?_
    refine O.p (Pu.move rfl) rfl ?_
    refine O.gskip (t := 47) rfl rfl (no_bool (by decide)) rfl rfl ?_
    refine O.gskip (t := 47) rfl rfl (no_bool (by decide)) rfl rfl ?_
    refine O.gskip (t := 47) rfl rfl (no_bool (by decide)) rfl rfl ?_
    refine O.gskip (t := 47) rfl rfl (no_bool (by decide)) rfl rfl ?_
    refine O.gskip (t := 47) rfl rfl (no_bool (by decide)) rfl rfl ?_
    refine O.gskip (t := 47) rfl rfl (no_bool (by decide)) rfl rfl ?_
    refine O.gskip (t := 47) rfl rfl (no_bool (by decide)) rfl rfl ?_
    refine O.p (Pu.pickF rfl rfl rfl) rfl ?_
    refine O.nil ?_
    refine J.condF rfl rfl ?_
    refine J.skip ?_
    refine J.seq ?_
    refine J.region ?_
    refine O.p (Pu.assign rfl) rfl ?_
    refine O.nil ?_
    refine J.seq ?_
    refine J.seq ?_
    refine J.region ?_
    refine O.p (Pu.assign rfl) rfl ?_
    refine O.nil ?_
    refine J.block ?_
    refine J.nilRow 30 4 ?_
    refine J.loop (X := Nat × Value × List Kw) (fun ξ => ξ.1 ≤ 8 ∧ ξ.2.2 = Sh.rowN (Sh.upd d (tn : Int) (⟨(tn : Int), thr, ep, Sh.tick now⟩ : Kw)) ξ.1 ∧ ξ.2.2.length ≤ ξ.1) (fun ξ => [(0, kv), (1, .int .i64 (tn : Int)), (10, Value.slice none 0 0), (11, .bool false), (12, .pointer (some ⟨g8, 0, none⟩)), (14, ξ.2.1), (15, .int .i64 (ξ.1 : Int))]) (fun ξ => [row ξ.2.1 30 4 (ξ.2.2.map Kw.cells), row kv 30 4 ((Sh.row d).map Kw.cells), var g8 [.int .i64 (tn : Int), .int .i64 thr, .int .i64 ep, .int .i64 (Sh.tick now)] 30]) (fun ξ => 8 - ξ.1) ⟨0, Value.slice none 0 0, ([] : List Kw)⟩ (show 0 ≤ 8 ∧ ([] : List Kw) = Sh.rowN (Sh.upd d (tn : Int) (⟨(tn : Int), thr, ep, Sh.tick now⟩ : Kw)) 0 ∧ ([] : List Kw).length ≤ 0 from ⟨by omega, rfl, by simp⟩) ⟨rfl, rfl, rfl, rfl, rfl, rfl, (congrArg (fun z => some (Value.int .i64 z)) (by first | rfl | omega : (0 : Int) = (0 : Int))), trivial⟩ [0, 2, 1] (by decide) rfl ?_
    rintro ⟨n, V, o⟩ hq10
    obtain ⟨hn, ho, hol⟩ : n ≤ 8 ∧ o = Sh.rowN (Sh.upd d (tn : Int) (⟨(tn : Int), thr, ep, Sh.tick now⟩ : Kw)) n ∧ o.length ≤ n := hq10
    show J _ _ [(0, kv), (1, .int .i64 (tn : Int)), (10, Value.slice none 0 0), (11, .bool false), (12, .pointer (some ⟨g8, 0, none⟩)), (14, V), (15, .int .i64 (n : Int))] [row V 30 4 (o.map Kw.cells), row kv 30 4 ((Sh.row d).map Kw.cells), var g8 [.int .i64 (tn : Int), .int .i64 thr, .int .i64 ep, .int .i64 (Sh.tick now)] 30]
    refine J.seq ?_
    refine J.seq ?_
    refine J.region ?_
    refine O.p (Pu.move rfl) rfl ?_
    refine O.p (Pu.lss rfl rfl) rfl ?_
    refine O.nil ?_
    refine J.cond rfl (fun h11 => ?_) (fun h11 => ?_)
    ·
     have p12 := of_decide_eq_true h11
     refine J.skip ?_
     refine J.seq ?_
     refine J.block ?_
     refine J.seq ?_
     refine J.region ?_
     refine O.p (Pu.move rfl) rfl ?_
     refine O.p (Pu.move rfl) rfl ?_
     refine O.l (Lo.call [kv, .int .i64 (n : Int)] (by exact Try.call22) rfl (r21_Find kv (Sh.row d) (n : Int) (by omega)) [] [0, 1, 2] (by decide) rfl [row V 30 4 (o.map Kw.cells), row kv 30 4 ((Sh.row d).map Kw.cells), var g8 [.int .i64 (tn : Int), .int .i64 thr, .int .i64 ep, .int .i64 (Sh.tick now)] 30] rfl (RoOk.of 1 rfl row_rd [] (by decide) rfl RoOk.nil)) rfl ?_
     rintro _ _ ⟨_, ⟨rfl, rfl⟩, rfl⟩
     refine O.p (Pu.assign rfl) rfl ?_
     refine O.nil ?_
     refine J.seq ?_
     rcases Sh.fnd_row0 (j := n) hi (by omega) with ⟨hf14, hd14⟩ | ⟨i14, x14, hf14, hx14, hd14⟩
     ·
      rw [hf14]
      refine J.region ?_
      refine O.p (Pu.move rfl) rfl ?_
      refine O.p (Pu.move rfl) rfl ?_
      refine O.p (Pu.eql rfl rfl) rfl ?_
      refine O.nil ?_
      refine J.cond rfl (fun h14 => ?_) (fun h14 => ?_)
      ·
       have p15 := of_decide_eq_true h14
       refine J.region ?_
       refine O.p (Pu.move rfl) rfl ?_
       refine O.q (Qt.ld rfl (Cel.var 2 rfl) (o := 0) (off := 0) rfl (Cut.agg [.int .i64 (tn : Int), .int .i64 thr, .int .i64 ep, .int .i64 (Sh.tick now)] Try.isAgg30 Try.sizeOf30 rfl rfl)) rfl ?_
       refine O.l (Lo.buildM (s := 4) Kw.cells [(⟨(tn : Int), thr, ep, Sh.tick now⟩ : Kw)] [(0, .agg #[.int .i64 (tn : Int), .int .i64 thr, .int .i64 ep, .int .i64 (Sh.tick now)])] (by exact Try.runUnderlying38) (by exact Try.sizeOf30) (by exact Try.zeroValue30) rfl rfl rfl (by kernel_rfl) rfl rfl) rfl ?_
       rintro V16 _ rfl
       refine O.l (Lo.appendM (s := 4) 1 (by exact Try.underlying38) (by exact (info30).1) (by exact (info30).2.1) (by exact (info30).2.2.1) (by exact (info30).2.2.2) rfl rfl rfl rfl rfl (Src.row 0 rfl) Kw.one (by first | omega | (have h_ := (List.getElem?_eq_some_iff.1 hx5).1; omega) | (have h_ := (List.getElem?_eq_some_iff.1 hx14).1; omega) | (simp only [List.length_append, List.length_cons, List.length_nil]; omega)) (by first | omega | (have h_ := (List.getElem?_eq_some_iff.1 hx5).1; omega) | (have h_ := (List.getElem?_eq_some_iff.1 hx14).1; omega) | (simp only [List.length_append, List.length_cons, List.length_nil]; omega))) rfl ?_
       rintro V17 _ rfl
       refine O.p (Pu.assign rfl) rfl ?_
       refine O.nil ?_
       refine J.blk ?_
       refine J.region ?_
       refine O.p (Pu.move rfl) rfl ?_
       refine O.p (Pu.add' rfl rfl (by first | omega | (simp only [List.length_append, List.length_cons, List.length_nil, List.length_set]; omega))) rfl ?_
       refine O.p (Pu.assign rfl) rfl ?_
       refine O.nil ?_
       exact J.lp ⟨n + 1, V17, o ++ ([(⟨(tn : Int), thr, ep, Sh.tick now⟩ : Kw)])⟩ (show (n + 1) ≤ 8 ∧ (o ++ ([(⟨(tn : Int), thr, ep, Sh.tick now⟩ : Kw)])) = Sh.rowN (Sh.upd d (tn : Int) (⟨(tn : Int), thr, ep, Sh.tick now⟩ : Kw)) (n + 1) ∧ (o ++ ([(⟨(tn : Int), thr, ep, Sh.tick now⟩ : Kw)])).length ≤ (n + 1) from ⟨by omega, (by rw [ho]; exact (Sh.rowN_some (Sh.upd_at (by omega))).symm), (by first | omega | (simp only [List.length_append, List.length_cons, List.length_nil]; omega))⟩) (show 8 - (n + 1) < 8 - n from (by first | omega | (have h_ := (List.getElem?_eq_some_iff.1 hx5).1; omega) | (have h_ := (List.getElem?_eq_some_iff.1 hx14).1; omega) | (simp only [List.length_append, List.length_cons, List.length_nil]; omega))) ⟨rfl, rfl, rfl, rfl, rfl, rfl, (congrArg (fun z => some (Value.int .i64 z)) (by first | rfl | omega : ((n : Int) + 1 : Int) = ((n + 1) : Int))), trivial⟩ [1, 2, 3] (by decide) rfl
      ·
       have p18 := of_decide_eq_false h14
       refine J.seq ?_
       refine J.region ?_
       refine O.p (Pu.move rfl) rfl ?_
       refine O.p (Pu.geq rfl rfl) rfl ?_
       refine O.nil ?_
       refine J.condF rfl rfl ?_
       refine J.skip ?_
       refine J.blk ?_
       refine J.region ?_
       refine O.p (Pu.move rfl) rfl ?_
       refine O.p (Pu.add' rfl rfl (by first | omega | (simp only [List.length_append, List.length_cons, List.length_nil, List.length_set]; omega))) rfl ?_
       refine O.p (Pu.assign rfl) rfl ?_
       refine O.nil ?_
       exact J.lp ⟨n + 1, V, o⟩ (show (n + 1) ≤ 8 ∧ o = Sh.rowN (Sh.upd d (tn : Int) (⟨(tn : Int), thr, ep, Sh.tick now⟩ : Kw)) (n + 1) ∧ o.length ≤ (n + 1) from ⟨by omega, (by rw [ho]; exact (Sh.rowN_none (by rw [Sh.upd_ne (by omega)]; exact hd14)).symm), (by first | omega | (simp only [List.length_append, List.length_cons, List.length_nil]; omega))⟩) (show 8 - (n + 1) < 8 - n from (by first | omega | (have h_ := (List.getElem?_eq_some_iff.1 hx5).1; omega) | (have h_ := (List.getElem?_eq_some_iff.1 hx14).1; omega) | (simp only [List.length_append, List.length_cons, List.length_nil]; omega))) ⟨rfl, rfl, rfl, rfl, rfl, rfl, (congrArg (fun z => some (Value.int .i64 z)) (by first | rfl | omega : ((n : Int) + 1 : Int) = ((n + 1) : Int))), trivial⟩ [0, 1, 2] (by decide) rfl
     ·
      rw [hf14]
      refine J.region ?_
      refine O.p (Pu.move rfl) rfl ?_
      refine O.p (Pu.move rfl) rfl ?_
      refine O.p (Pu.eql rfl rfl) rfl ?_
      refine O.nil ?_
      refine J.cond rfl (fun h19 => ?_) (fun h19 => ?_)
      ·
       have p20 := of_decide_eq_true h19
       refine J.region ?_
       refine O.p (Pu.move rfl) rfl ?_
       refine O.q (Qt.ld rfl (Cel.var 2 rfl) (o := 0) (off := 0) rfl (Cut.agg [.int .i64 (tn : Int), .int .i64 thr, .int .i64 ep, .int .i64 (Sh.tick now)] Try.isAgg30 Try.sizeOf30 rfl rfl)) rfl ?_
       refine O.l (Lo.buildM (s := 4) Kw.cells [(⟨(tn : Int), thr, ep, Sh.tick now⟩ : Kw)] [(0, .agg #[.int .i64 (tn : Int), .int .i64 thr, .int .i64 ep, .int .i64 (Sh.tick now)])] (by exact Try.runUnderlying38) (by exact Try.sizeOf30) (by exact Try.zeroValue30) rfl rfl rfl (by kernel_rfl) rfl rfl) rfl ?_
       rintro V21 _ rfl
       refine O.l (Lo.appendM (s := 4) 1 (by exact Try.underlying38) (by exact (info30).1) (by exact (info30).2.1) (by exact (info30).2.2.1) (by exact (info30).2.2.2) rfl rfl rfl rfl rfl (Src.row 0 rfl) Kw.one (by first | omega | (have h_ := (List.getElem?_eq_some_iff.1 hx5).1; omega) | (have h_ := (List.getElem?_eq_some_iff.1 hx14).1; omega) | (simp only [List.length_append, List.length_cons, List.length_nil]; omega)) (by first | omega | (have h_ := (List.getElem?_eq_some_iff.1 hx5).1; omega) | (have h_ := (List.getElem?_eq_some_iff.1 hx14).1; omega) | (simp only [List.length_append, List.length_cons, List.length_nil]; omega))) rfl ?_
       rintro V22 _ rfl
       refine O.p (Pu.assign rfl) rfl ?_
       refine O.nil ?_
       refine J.blk ?_
       refine J.region ?_
       refine O.p (Pu.move rfl) rfl ?_
       refine O.p (Pu.add' rfl rfl (by first | omega | (simp only [List.length_append, List.length_cons, List.length_nil, List.length_set]; omega))) rfl ?_
       refine O.p (Pu.assign rfl) rfl ?_
       refine O.nil ?_
       exact J.lp ⟨n + 1, V22, o ++ ([(⟨(tn : Int), thr, ep, Sh.tick now⟩ : Kw)])⟩ (show (n + 1) ≤ 8 ∧ (o ++ ([(⟨(tn : Int), thr, ep, Sh.tick now⟩ : Kw)])) = Sh.rowN (Sh.upd d (tn : Int) (⟨(tn : Int), thr, ep, Sh.tick now⟩ : Kw)) (n + 1) ∧ (o ++ ([(⟨(tn : Int), thr, ep, Sh.tick now⟩ : Kw)])).length ≤ (n + 1) from ⟨by omega, (by rw [ho]; exact (Sh.rowN_some (Sh.upd_at (by omega))).symm), (by first | omega | (simp only [List.length_append, List.length_cons, List.length_nil]; omega))⟩) (show 8 - (n + 1) < 8 - n from (by first | omega | (have h_ := (List.getElem?_eq_some_iff.1 hx5).1; omega) | (have h_ := (List.getElem?_eq_some_iff.1 hx14).1; omega) | (simp only [List.length_append, List.length_cons, List.length_nil]; omega))) ⟨rfl, rfl, rfl, rfl, rfl, rfl, (congrArg (fun z => some (Value.int .i64 z)) (by first | rfl | omega : ((n : Int) + 1 : Int) = ((n + 1) : Int))), trivial⟩ [1, 2, 3] (by decide) rfl
      ·
       have p23 := of_decide_eq_false h19
       refine J.seq ?_
       refine J.region ?_
       refine O.p (Pu.move rfl) rfl ?_
       refine O.p (Pu.geq rfl rfl) rfl ?_
       refine O.nil ?_
       refine J.condT rfl (decide_eq_true (by omega)) ?_
       refine J.region ?_
       refine O.p (Pu.move rfl) rfl ?_
       refine O.p (Pu.move rfl) rfl ?_
       refine O.p (Pu.move rfl) rfl ?_
       refine O.q (Qt.idxM Try.runUnderlying38 Try.sizeOf30 rfl (Src.row 1 rfl) rfl (by first | omega | (have h_ := (List.getElem?_eq_some_iff.1 hx5).1; omega) | (have h_ := (List.getElem?_eq_some_iff.1 hx14).1; omega) | (simp only [List.length_append, List.length_cons, List.length_nil]; omega)) (by first | omega | (have h_ := (List.getElem?_eq_some_iff.1 hx5).1; omega) | (have h_ := (List.getElem?_eq_some_iff.1 hx14).1; omega) | (simp only [List.length_append, List.length_cons, List.length_nil]; omega))) rfl ?_
       refine O.q (Qt.ld rfl (Cel.eltM (Src.row 1 rfl) hx14) (o := (voff kv + i14 * 4)) (off := 0) (by omega) (Cut.agg [.int .i64 x14.to, .int .i64 x14.thr, .int .i64 x14.ep, .int .i64 x14.at_] Try.isAgg30 Try.sizeOf30 rfl rfl)) rfl ?_
       refine O.l (Lo.buildM (s := 4) Kw.cells [x14] [(0, .agg #[.int .i64 x14.to, .int .i64 x14.thr, .int .i64 x14.ep, .int .i64 x14.at_])] (by exact Try.runUnderlying38) (by exact Try.sizeOf30) (by exact Try.zeroValue30) rfl rfl rfl (by kernel_rfl) rfl rfl) rfl ?_
       rintro V24 _ rfl
       refine O.l (Lo.appendM (s := 4) 1 (by exact Try.underlying38) (by exact (info30).1) (by exact (info30).2.1) (by exact (info30).2.2.1) (by exact (info30).2.2.2) rfl rfl rfl rfl rfl (Src.row 0 rfl) Kw.one (by first | omega | (have h_ := (List.getElem?_eq_some_iff.1 hx5).1; omega) | (have h_ := (List.getElem?_eq_some_iff.1 hx14).1; omega) | (simp only [List.length_append, List.length_cons, List.length_nil]; omega)) (by first | omega | (have h_ := (List.getElem?_eq_some_iff.1 hx5).1; omega) | (have h_ := (List.getElem?_eq_some_iff.1 hx14).1; omega) | (simp only [List.length_append, List.length_cons, List.length_nil]; omega))) rfl ?_
       rintro V25 _ rfl
       refine O.p (Pu.assign rfl) rfl ?_
       refine O.nil ?_
       refine J.blk ?_
       refine J.region ?_
       refine O.p (Pu.move rfl) rfl ?_
       refine O.p (Pu.add' rfl rfl (by first | omega | (simp only [List.length_append, List.length_cons, List.length_nil, List.length_set]; omega))) rfl ?_
       refine O.p (Pu.assign rfl) rfl ?_
       refine O.nil ?_
       exact J.lp ⟨n + 1, V25, o ++ ([x14])⟩ (show (n + 1) ≤ 8 ∧ (o ++ ([x14])) = Sh.rowN (Sh.upd d (tn : Int) (⟨(tn : Int), thr, ep, Sh.tick now⟩ : Kw)) (n + 1) ∧ (o ++ ([x14])).length ≤ (n + 1) from ⟨by omega, (by rw [ho]; exact (Sh.rowN_some (by rw [Sh.upd_ne (by omega)]; exact hd14)).symm), (by first | omega | (simp only [List.length_append, List.length_cons, List.length_nil]; omega))⟩) (show 8 - (n + 1) < 8 - n from (by first | omega | (have h_ := (List.getElem?_eq_some_iff.1 hx5).1; omega) | (have h_ := (List.getElem?_eq_some_iff.1 hx14).1; omega) | (simp only [List.length_append, List.length_cons, List.length_nil]; omega))) ⟨rfl, rfl, rfl, rfl, rfl, rfl, (congrArg (fun z => some (Value.int .i64 z)) (by first | rfl | omega : ((n : Int) + 1 : Int) = ((n + 1) : Int))), trivial⟩ [1, 2, 3] (by decide) rfl
    ·
     have p26 := of_decide_eq_false h11
     refine J.exit _ rfl ?_
     refine J.seq ?_
     refine J.region ?_
     refine O.p (Pu.move rfl) rfl ?_
     refine O.p (Pu.assign rfl) rfl ?_
     refine O.p (Pu.assign rfl) rfl ?_
     refine O.nil ?_
     exact J.ret (Fin.ret (rs := [.tmp 10, .tmp 11]) rfl [_, _] ⟨rfl, rfl, trivial⟩ [0] (by decide) [row V 30 4 (o.map Kw.cells)] rfl ⟨V, (by rw [Sh.lrn_new (to := (tn : Int)) (Sh.has_iff.2 (by omega)) (by simpa using hd5)]; rfl), (by rw [Sh.lrn_new (to := (tn : Int)) (Sh.has_iff.2 (by omega)) (by simpa using hd5)]; exact congrArg (fun (z_ : List Kw) => ([row V 30 4 (z_.map Kw.cells)] : List Sp)) (show o = Sh.rowN (Sh.upd d (tn : Int) (⟨(tn : Int), thr, ep, Sh.tick now⟩ : Kw)) 8 from (by rw [ho, show n = 8 from by omega])))⟩)
   ·
    rw [hf5]
    refine J.region ?_
    refine O.p (Pu.move rfl) rfl ?_
    refine O.p (Pu.geq rfl rfl) rfl ?_
    refine O.p (Pu.move rfl) rfl ?_
    refine O.gq (t := 35) rfl rfl (decide_eq_true (by omega)) rfl (Pu.qt (Pu.move rfl)) rfl ?_
    refine O.gq (t := 35) rfl rfl (decide_eq_true (by omega)) rfl (Pu.qt (Pu.move rfl)) rfl ?_
    refine O.gq (t := 35) rfl rfl (decide_eq_true (by omega)) rfl (Qt.idxM Try.runUnderlying38 Try.sizeOf30 rfl (Src.row 1 rfl) rfl (by first | omega | (have h_ := (List.getElem?_eq_some_iff.1 hx5).1; omega) | (have h_ := (List.getElem?_eq_some_iff.1 hx14).1; omega) | (simp only [List.length_append, List.length_cons, List.length_nil]; omega)) (by first | omega | (have h_ := (List.getElem?_eq_some_iff.1 hx5).1; omega) | (have h_ := (List.getElem?_eq_some_iff.1 hx14).1; omega) | (simp only [List.length_append, List.length_cons, List.length_nil]; omega))) rfl ?_
    refine O.gq (t := 35) rfl rfl (decide_eq_true (by omega)) rfl (Pu.qt (Pu.fieldAddr (off' := voff kv + ((i5 : Int)).toNat * 4 + 2) Try.runUnderlying30 rfl Try.sizeOf3 rfl rfl rfl)) rfl ?_
    refine O.gq (t := 35) rfl rfl (decide_eq_true (by omega)) rfl (Qt.ld rfl (Cel.eltM (Src.row 1 rfl) hx5) (o := (voff kv + i5 * 4)) (off := 2) (by omega) (Cut.one Try.isAgg3 rfl)) rfl ?_
    refine O.gq (t := 35) rfl rfl (decide_eq_true (by omega)) rfl (Pu.qt (Pu.move rfl)) rfl ?_
    refine O.gq (t := 35) rfl rfl (decide_eq_true (by omega)) rfl (Pu.qt (Pu.gtr rfl rfl)) rfl ?_
    refine O.p (Pu.pickT rfl (decide_eq_true (by omega)) rfl) rfl ?_
    refine O.nil ?_
    refine J.cond rfl (fun h27 => ?_) (fun h27 => ?_)
    ·
     have p28 := of_decide_eq_true h27
     refine J.seq ?_
     refine J.region ?_
     refine O.p (Pu.move rfl) rfl ?_
     refine O.p (Pu.assign rfl) rfl ?_
     refine O.p (Pu.assign rfl) rfl ?_
     refine O.nil ?_
     exact J.ret (Fin.ret (rs := [.tmp 10, .tmp 11]) rfl [_, _] ⟨rfl, rfl, trivial⟩ [1] (by decide) [row kv 30 4 ((Sh.row d).map Kw.cells)] rfl ⟨kv, (by rw [Sh.lrn_late (by simpa using hd5) (by omega)]; rfl), (by rw [Sh.lrn_late (by simpa using hd5) (by omega)])⟩)
    ·
     have p29 := of_decide_eq_false h27
     refine J.skip ?_
     refine J.seq ?_
     refine J.seq ?_
     refine J.region ?_
     refine O.p (Pu.move rfl) rfl ?_
     refine O.p (Pu.geq rfl rfl) rfl ?_
     refine O.p (Pu.move rfl) rfl ?_
     refine O.gq (t := 47) rfl rfl (decide_eq_true (by omega)) rfl (Pu.qt (Pu.move rfl)) rfl ?_
     refine O.gq (t := 47) rfl rfl (decide_eq_true (by omega)) rfl (Pu.qt (Pu.move rfl)) rfl ?_
     refine O.gq (t := 47) rfl rfl (decide_eq_true (by omega)) rfl (Qt.idxM Try.runUnderlying38 Try.sizeOf30 rfl (Src.row 1 rfl) rfl (by first | omega | (have h_ := (List.getElem?_eq_some_iff.1 hx5).1; omega) | (have h_ := (List.getElem?_eq_some_iff.1 hx14).1; omega) | (simp only [List.length_append, List.length_cons, List.length_nil]; omega)) (by first | omega | (have h_ := (List.getElem?_eq_some_iff.1 hx5).1; omega) | (have h_ := (List.getElem?_eq_some_iff.1 hx14).1; omega) | (simp only [List.length_append, List.length_cons, List.length_nil]; omega))) rfl ?_
     refine O.gq (t := 47) rfl rfl (decide_eq_true (by omega)) rfl (Pu.qt (Pu.fieldAddr (off' := voff kv + ((i5 : Int)).toNat * 4 + 2) Try.runUnderlying30 rfl Try.sizeOf3 rfl rfl rfl)) rfl ?_
     refine O.gq (t := 47) rfl rfl (decide_eq_true (by omega)) rfl (Qt.ld rfl (Cel.eltM (Src.row 1 rfl) hx5) (o := (voff kv + i5 * 4)) (off := 2) (by omega) (Cut.one Try.isAgg3 rfl)) rfl ?_
     refine O.gq (t := 47) rfl rfl (decide_eq_true (by omega)) rfl (Pu.qt (Pu.move rfl)) rfl ?_
     refine O.gq (t := 47) rfl rfl (decide_eq_true (by omega)) rfl (Pu.qt (Pu.eql rfl rfl)) rfl ?_
     refine O.p (Pu.pickT rfl (decide_eq_true (by omega)) rfl) rfl ?_
     refine O.nil ?_
     refine J.cond rfl (fun h30 => ?_) (fun h30 => ?_)
     ·
      have p31 := of_decide_eq_true h30
      refine J.region ?_
      refine O.p (Pu.move rfl) rfl ?_
      refine O.p (Pu.move rfl) rfl ?_
      refine O.q (Qt.idxM Try.runUnderlying38 Try.sizeOf30 rfl (Src.row 1 rfl) rfl (by first | omega | (have h_ := (List.getElem?_eq_some_iff.1 hx5).1; omega) | (have h_ := (List.getElem?_eq_some_iff.1 hx14).1; omega) | (simp only [List.length_append, List.length_cons, List.length_nil]; omega)) (by first | omega | (have h_ := (List.getElem?_eq_some_iff.1 hx5).1; omega) | (have h_ := (List.getElem?_eq_some_iff.1 hx14).1; omega) | (simp only [List.length_append, List.length_cons, List.length_nil]; omega))) rfl ?_
      refine O.p (Pu.fieldAddr (off' := voff kv + ((i5 : Int)).toNat * 4 + 1) Try.runUnderlying30 rfl Try.sizeOf3 rfl rfl rfl) rfl ?_
      refine O.q (Qt.ld rfl (Cel.eltM (Src.row 1 rfl) hx5) (o := (voff kv + i5 * 4)) (off := 1) (by omega) (Cut.one Try.isAgg3 rfl)) rfl ?_
      refine O.p (Pu.fieldAddr (off' := 1) Try.runUnderlying30 rfl Try.sizeOf3 rfl rfl rfl) rfl ?_
      refine O.l0 (Lo.store 0 (vs := [.int .i64 x5.thr]) [.int .i64 (tn : Int), .int .i64 x5.thr, .int .i64 ep, .int .i64 (Sh.tick now)] rfl rfl rfl (by exact Try.sizeOf3) rfl rfl rfl rfl rfl) ?_
      rintro _ _ rfl
      refine O.nil ?_
      refine J.seq ?_
      refine J.region ?_
      refine O.p (Pu.assign rfl) rfl ?_
      refine O.nil ?_
      refine J.seq ?_
      refine J.seq ?_
      refine J.region ?_
      refine O.p (Pu.assign rfl) rfl ?_
      refine O.nil ?_
      refine J.block ?_
      refine J.nilRow 30 4 ?_
      refine J.loop (X := Nat × Value × List Kw) (fun ξ => ξ.1 ≤ 8 ∧ ξ.2.2 = Sh.rowN (Sh.upd d (tn : Int) (⟨(tn : Int), x5.thr, ep, Sh.tick now⟩ : Kw)) ξ.1 ∧ ξ.2.2.length ≤ ξ.1) (fun ξ => [(0, kv), (1, .int .i64 (tn : Int)), (10, Value.slice none 0 0), (11, .bool false), (12, .pointer (some ⟨g8, 0, none⟩)), (14, ξ.2.1), (15, .int .i64 (ξ.1 : Int))]) (fun ξ => [row ξ.2.1 30 4 (ξ.2.2.map Kw.cells), row kv 30 4 ((Sh.row d).map Kw.cells), var g8 [.int .i64 (tn : Int), .int .i64 x5.thr, .int .i64 ep, .int .i64 (Sh.tick now)] 30]) (fun ξ => 8 - ξ.1) ⟨0, Value.slice none 0 0, ([] : List Kw)⟩ (show 0 ≤ 8 ∧ ([] : List Kw) = Sh.rowN (Sh.upd d (tn : Int) (⟨(tn : Int), x5.thr, ep, Sh.tick now⟩ : Kw)) 0 ∧ ([] : List Kw).length ≤ 0 from ⟨by omega, rfl, by simp⟩) ⟨rfl, rfl, rfl, rfl, rfl, rfl, (congrArg (fun z => some (Value.int .i64 z)) (by first | rfl | omega : (0 : Int) = (0 : Int))), trivial⟩ [0, 2, 1] (by decide) rfl ?_
      rintro ⟨n, V, o⟩ hq32
      obtain ⟨hn, ho, hol⟩ : n ≤ 8 ∧ o = Sh.rowN (Sh.upd d (tn : Int) (⟨(tn : Int), x5.thr, ep, Sh.tick now⟩ : Kw)) n ∧ o.length ≤ n := hq32
      show J _ _ [(0, kv), (1, .int .i64 (tn : Int)), (10, Value.slice none 0 0), (11, .bool false), (12, .pointer (some ⟨g8, 0, none⟩)), (14, V), (15, .int .i64 (n : Int))] [row V 30 4 (o.map Kw.cells), row kv 30 4 ((Sh.row d).map Kw.cells), var g8 [.int .i64 (tn : Int), .int .i64 x5.thr, .int .i64 ep, .int .i64 (Sh.tick now)] 30]
      refine J.seq ?_
      refine J.seq ?_
      refine J.region ?_
      refine O.p (Pu.move rfl) rfl ?_
      refine O.p (Pu.lss rfl rfl) rfl ?_
      refine O.nil ?_
      refine J.cond rfl (fun h33 => ?_) (fun h33 => ?_)
      ·
       have p34 := of_decide_eq_true h33
       refine J.skip ?_
       refine J.seq ?_
       refine J.block ?_
       refine J.seq ?_
       refine J.region ?_
       refine O.p (Pu.move rfl) rfl ?_
       refine O.p (Pu.move rfl) rfl ?_
       refine O.l (Lo.call [kv, .int .i64 (n : Int)] (by exact Try.call22) rfl (r21_Find kv (Sh.row d) (n : Int) (by omega)) [] [0, 1, 2] (by decide) rfl [row V 30 4 (o.map Kw.cells), row kv 30 4 ((Sh.row d).map Kw.cells), var g8 [.int .i64 (tn : Int), .int .i64 x5.thr, .int .i64 ep, .int .i64 (Sh.tick now)] 30] rfl (RoOk.of 1 rfl row_rd [] (by decide) rfl RoOk.nil)) rfl ?_
       rintro _ _ ⟨_, ⟨rfl, rfl⟩, rfl⟩
       refine O.p (Pu.assign rfl) rfl ?_
       refine O.nil ?_
       refine J.seq ?_
       rcases Sh.fnd_row0 (j := n) hi (by omega) with ⟨hf14, hd14⟩ | ⟨i14, x14, hf14, hx14, hd14⟩
       ·
        rw [hf14]
        refine J.region ?_
        refine O.p (Pu.move rfl) rfl ?_
        refine O.p (Pu.move rfl) rfl ?_
        refine O.p (Pu.eql rfl rfl) rfl ?_
        refine O.nil ?_
        refine J.cond rfl (fun h36 => ?_) (fun h36 => ?_)
        ·
         have p37 := of_decide_eq_true h36
         refine J.region ?_
         refine O.p (Pu.move rfl) rfl ?_
         refine O.q (Qt.ld rfl (Cel.var 2 rfl) (o := 0) (off := 0) rfl (Cut.agg [.int .i64 (tn : Int), .int .i64 x5.thr, .int .i64 ep, .int .i64 (Sh.tick now)] Try.isAgg30 Try.sizeOf30 rfl rfl)) rfl ?_
         refine O.l (Lo.buildM (s := 4) Kw.cells [(⟨(tn : Int), x5.thr, ep, Sh.tick now⟩ : Kw)] [(0, .agg #[.int .i64 (tn : Int), .int .i64 x5.thr, .int .i64 ep, .int .i64 (Sh.tick now)])] (by exact Try.runUnderlying38) (by exact Try.sizeOf30) (by exact Try.zeroValue30) rfl rfl rfl (by kernel_rfl) rfl rfl) rfl ?_
         rintro V38 _ rfl
         refine O.l (Lo.appendM (s := 4) 1 (by exact Try.underlying38) (by exact (info30).1) (by exact (info30).2.1) (by exact (info30).2.2.1) (by exact (info30).2.2.2) rfl rfl rfl rfl rfl (Src.row 0 rfl) Kw.one (by first | omega | (have h_ := (List.getElem?_eq_some_iff.1 hx5).1; omega) | (have h_ := (List.getElem?_eq_some_iff.1 hx14).1; omega) | (simp only [List.length_append, List.length_cons, List.length_nil]; omega)) (by first | omega | (have h_ := (List.getElem?_eq_some_iff.1 hx5).1; omega) | (have h_ := (List.getElem?_eq_some_iff.1 hx14).1; omega) | (simp only [List.length_append, List.length_cons, List.length_nil]; omega))) rfl ?_
         rintro V39 _ rfl
         refine O.p (Pu.assign rfl) rfl ?_
         refine O.nil ?_
         refine J.blk ?_
         refine J.region ?_
         refine O.p (Pu.move rfl) rfl ?_
         refine O.p (Pu.add' rfl rfl (by first | omega | (simp only [List.length_append, List.length_cons, List.length_nil, List.length_set]; omega))) rfl ?_
         refine O.p (Pu.assign rfl) rfl ?_
         refine O.nil ?_
         exact J.lp ⟨n + 1, V39, o ++ ([(⟨(tn : Int), x5.thr, ep, Sh.tick now⟩ : Kw)])⟩ (show (n + 1) ≤ 8 ∧ (o ++ ([(⟨(tn : Int), x5.thr, ep, Sh.tick now⟩ : Kw)])) = Sh.rowN (Sh.upd d (tn : Int) (⟨(tn : Int), x5.thr, ep, Sh.tick now⟩ : Kw)) (n + 1) ∧ (o ++ ([(⟨(tn : Int), x5.thr, ep, Sh.tick now⟩ : Kw)])).length ≤ (n + 1) from ⟨by omega, (by rw [ho]; exact (Sh.rowN_some (Sh.upd_at (by omega))).symm), (by first | omega | (simp only [List.length_append, List.length_cons, List.length_nil]; omega))⟩) (show 8 - (n + 1) < 8 - n from (by first | omega | (have h_ := (List.getElem?_eq_some_iff.1 hx5).1; omega) | (have h_ := (List.getElem?_eq_some_iff.1 hx14).1; omega) | (simp only [List.length_append, List.length_cons, List.length_nil]; omega))) ⟨rfl, rfl, rfl, rfl, rfl, rfl, (congrArg (fun z => some (Value.int .i64 z)) (by first | rfl | omega : ((n : Int) + 1 : Int) = ((n + 1) : Int))), trivial⟩ [1, 2, 3] (by decide) rfl
        ·
         have p40 := of_decide_eq_false h36
         refine J.seq ?_
         refine J.region ?_
         refine O.p (Pu.move rfl) rfl ?_
         refine O.p (Pu.geq rfl rfl) rfl ?_
         refine O.nil ?_
         refine J.condF rfl rfl ?_
         refine J.skip ?_
         refine J.blk ?_
         refine J.region ?_
         refine O.p (Pu.move rfl) rfl ?_
         refine O.p (Pu.add' rfl rfl (by first | omega | (simp only [List.length_append, List.length_cons, List.length_nil, List.length_set]; omega))) rfl ?_
         refine O.p (Pu.assign rfl) rfl ?_
         refine O.nil ?_
         exact J.lp ⟨n + 1, V, o⟩ (show (n + 1) ≤ 8 ∧ o = Sh.rowN (Sh.upd d (tn : Int) (⟨(tn : Int), x5.thr, ep, Sh.tick now⟩ : Kw)) (n + 1) ∧ o.length ≤ (n + 1) from ⟨by omega, (by rw [ho]; exact (Sh.rowN_none (by rw [Sh.upd_ne (by omega)]; exact hd14)).symm), (by first | omega | (simp only [List.length_append, List.length_cons, List.length_nil]; omega))⟩) (show 8 - (n + 1) < 8 - n from (by first | omega | (have h_ := (List.getElem?_eq_some_iff.1 hx5).1; omega) | (have h_ := (List.getElem?_eq_some_iff.1 hx14).1; omega) | (simp only [List.length_append, List.length_cons, List.length_nil]; omega))) ⟨rfl, rfl, rfl, rfl, rfl, rfl, (congrArg (fun z => some (Value.int .i64 z)) (by first | rfl | omega : ((n : Int) + 1 : Int) = ((n + 1) : Int))), trivial⟩ [0, 1, 2] (by decide) rfl
       ·
        rw [hf14]
        refine J.region ?_
        refine O.p (Pu.move rfl) rfl ?_
        refine O.p (Pu.move rfl) rfl ?_
        refine O.p (Pu.eql rfl rfl) rfl ?_
        refine O.nil ?_
        refine J.cond rfl (fun h41 => ?_) (fun h41 => ?_)
        ·
         have p42 := of_decide_eq_true h41
         refine J.region ?_
         refine O.p (Pu.move rfl) rfl ?_
         refine O.q (Qt.ld rfl (Cel.var 2 rfl) (o := 0) (off := 0) rfl (Cut.agg [.int .i64 (tn : Int), .int .i64 x5.thr, .int .i64 ep, .int .i64 (Sh.tick now)] Try.isAgg30 Try.sizeOf30 rfl rfl)) rfl ?_
         refine O.l (Lo.buildM (s := 4) Kw.cells [(⟨(tn : Int), x5.thr, ep, Sh.tick now⟩ : Kw)] [(0, .agg #[.int .i64 (tn : Int), .int .i64 x5.thr, .int .i64 ep, .int .i64 (Sh.tick now)])] (by exact Try.runUnderlying38) (by exact Try.sizeOf30) (by exact Try.zeroValue30) rfl rfl rfl (by kernel_rfl) rfl rfl) rfl ?_
         rintro V43 _ rfl
         refine O.l (Lo.appendM (s := 4) 1 (by exact Try.underlying38) (by exact (info30).1) (by exact (info30).2.1) (by exact (info30).2.2.1) (by exact (info30).2.2.2) rfl rfl rfl rfl rfl (Src.row 0 rfl) Kw.one (by first | omega | (have h_ := (List.getElem?_eq_some_iff.1 hx5).1; omega) | (have h_ := (List.getElem?_eq_some_iff.1 hx14).1; omega) | (simp only [List.length_append, List.length_cons, List.length_nil]; omega)) (by first | omega | (have h_ := (List.getElem?_eq_some_iff.1 hx5).1; omega) | (have h_ := (List.getElem?_eq_some_iff.1 hx14).1; omega) | (simp only [List.length_append, List.length_cons, List.length_nil]; omega))) rfl ?_
         rintro V44 _ rfl
         refine O.p (Pu.assign rfl) rfl ?_
         refine O.nil ?_
         refine J.blk ?_
         refine J.region ?_
         refine O.p (Pu.move rfl) rfl ?_
         refine O.p (Pu.add' rfl rfl (by first | omega | (simp only [List.length_append, List.length_cons, List.length_nil, List.length_set]; omega))) rfl ?_
         refine O.p (Pu.assign rfl) rfl ?_
         refine O.nil ?_
         exact J.lp ⟨n + 1, V44, o ++ ([(⟨(tn : Int), x5.thr, ep, Sh.tick now⟩ : Kw)])⟩ (show (n + 1) ≤ 8 ∧ (o ++ ([(⟨(tn : Int), x5.thr, ep, Sh.tick now⟩ : Kw)])) = Sh.rowN (Sh.upd d (tn : Int) (⟨(tn : Int), x5.thr, ep, Sh.tick now⟩ : Kw)) (n + 1) ∧ (o ++ ([(⟨(tn : Int), x5.thr, ep, Sh.tick now⟩ : Kw)])).length ≤ (n + 1) from ⟨by omega, (by rw [ho]; exact (Sh.rowN_some (Sh.upd_at (by omega))).symm), (by first | omega | (simp only [List.length_append, List.length_cons, List.length_nil]; omega))⟩) (show 8 - (n + 1) < 8 - n from (by first | omega | (have h_ := (List.getElem?_eq_some_iff.1 hx5).1; omega) | (have h_ := (List.getElem?_eq_some_iff.1 hx14).1; omega) | (simp only [List.length_append, List.length_cons, List.length_nil]; omega))) ⟨rfl, rfl, rfl, rfl, rfl, rfl, (congrArg (fun z => some (Value.int .i64 z)) (by first | rfl | omega : ((n : Int) + 1 : Int) = ((n + 1) : Int))), trivial⟩ [1, 2, 3] (by decide) rfl
        ·
         have p45 := of_decide_eq_false h41
         refine J.seq ?_
         refine J.region ?_
         refine O.p (Pu.move rfl) rfl ?_
         refine O.p (Pu.geq rfl rfl) rfl ?_
         refine O.nil ?_
         refine J.condT rfl (decide_eq_true (by omega)) ?_
         refine J.region ?_
         refine O.p (Pu.move rfl) rfl ?_
         refine O.p (Pu.move rfl) rfl ?_
         refine O.p (Pu.move rfl) rfl ?_
         refine O.q (Qt.idxM Try.runUnderlying38 Try.sizeOf30 rfl (Src.row 1 rfl) rfl (by first | omega | (have h_ := (List.getElem?_eq_some_iff.1 hx5).1; omega) | (have h_ := (List.getElem?_eq_some_iff.1 hx14).1; omega) | (simp only [List.length_append, List.length_cons, List.length_nil]; omega)) (by first | omega | (have h_ := (List.getElem?_eq_some_iff.1 hx5).1; omega) | (have h_ := (List.getElem?_eq_some_iff.1 hx14).1; omega) | (simp only [List.length_append, List.length_cons, List.length_nil]; omega))) rfl ?_
         refine O.q (Qt.ld rfl (Cel.eltM (Src.row 1 rfl) hx14) (o := (voff kv + i14 * 4)) (off := 0) (by omega) (Cut.agg [.int .i64 x14.to, .int .i64 x14.thr, .int .i64 x14.ep, .int .i64 x14.at_] Try.isAgg30 Try.sizeOf30 rfl rfl)) rfl ?_
         refine O.l (Lo.buildM (s := 4) Kw.cells [x14] [(0, .agg #[.int .i64 x14.to, .int .i64 x14.thr, .int .i64 x14.ep, .int .i64 x14.at_])] (by exact Try.runUnderlying38) (by exact Try.sizeOf30) (by exact Try.zeroValue30) rfl rfl rfl (by kernel_rfl) rfl rfl) rfl ?_
         rintro V46 _ rfl
         refine O.l (Lo.appendM (s := 4) 1 (by exact Try.underlying38) (by exact (info30).1) (by exact (info30).2.1) (by exact (info30).2.2.1) (by exact (info30).2.2.2) rfl rfl rfl rfl rfl (Src.row 0 rfl) Kw.one (by first | omega | (have h_ := (List.getElem?_eq_some_iff.1 hx5).1; omega) | (have h_ := (List.getElem?_eq_some_iff.1 hx14).1; omega) | (simp only [List.length_append, List.length_cons, List.length_nil]; omega)) (by first | omega | (have h_ := (List.getElem?_eq_some_iff.1 hx5).1; omega) | (have h_ := (List.getElem?_eq_some_iff.1 hx14).1; omega) | (simp only [List.length_append, List.length_cons, List.length_nil]; omega))) rfl ?_
         rintro V47 _ rfl
         refine O.p (Pu.assign rfl) rfl ?_
         refine O.nil ?_
         refine J.blk ?_
         refine J.region ?_
         refine O.p (Pu.move rfl) rfl ?_
         refine O.p (Pu.add' rfl rfl (by first | omega | (simp only [List.length_append, List.length_cons, List.length_nil, List.length_set]; omega))) rfl ?_
         refine O.p (Pu.assign rfl) rfl ?_
         refine O.nil ?_
         exact J.lp ⟨n + 1, V47, o ++ ([x14])⟩ (show (n + 1) ≤ 8 ∧ (o ++ ([x14])) = Sh.rowN (Sh.upd d (tn : Int) (⟨(tn : Int), x5.thr, ep, Sh.tick now⟩ : Kw)) (n + 1) ∧ (o ++ ([x14])).length ≤ (n + 1) from ⟨by omega, (by rw [ho]; exact (Sh.rowN_some (by rw [Sh.upd_ne (by omega)]; exact hd14)).symm), (by first | omega | (simp only [List.length_append, List.length_cons, List.length_nil]; omega))⟩) (show 8 - (n + 1) < 8 - n from (by first | omega | (have h_ := (List.getElem?_eq_some_iff.1 hx5).1; omega) | (have h_ := (List.getElem?_eq_some_iff.1 hx14).1; omega) | (simp only [List.length_append, List.length_cons, List.length_nil]; omega))) ⟨rfl, rfl, rfl, rfl, rfl, rfl, (congrArg (fun z => some (Value.int .i64 z)) (by first | rfl | omega : ((n : Int) + 1 : Int) = ((n + 1) : Int))), trivial⟩ [1, 2, 3] (by decide) rfl
      ·
       have p48 := of_decide_eq_false h33
       refine J.exit _ rfl ?_
       refine J.seq ?_
       refine J.region ?_
       refine O.p (Pu.move rfl) rfl ?_
       refine O.p (Pu.assign rfl) rfl ?_
       refine O.p (Pu.assign rfl) rfl ?_
       refine O.nil ?_
       exact J.ret (Fin.ret (rs := [.tmp 10, .tmp 11]) rfl [_, _] ⟨rfl, rfl, trivial⟩ [0] (by decide) [row V 30 4 (o.map Kw.cells)] rfl ⟨V, (by rw [Sh.lrn_same (to := (tn : Int)) (Sh.has_iff.2 (by omega)) (by simpa using hd5) (by omega)]; rfl), (by rw [Sh.lrn_same (to := (tn : Int)) (Sh.has_iff.2 (by omega)) (by simpa using hd5) (by omega), hi tn x5 (by omega) hd5, show x5.ep = ep from (by omega)]; exact congrArg (fun (z_ : List Kw) => ([row V 30 4 (z_.map Kw.cells)] : List Sp)) (show o = Sh.rowN (Sh.upd d (tn : Int) (⟨(tn : Int), x5.thr, ep, Sh.tick now⟩ : Kw)) 8 from (by rw [ho, show n = 8 from by omega])))⟩)
     ·
      have p49 := of_decide_eq_false h30
      refine J.skip ?_
      refine J.seq ?_
      refine J.region ?_
      refine O.p (Pu.assign rfl) rfl ?_
      refine O.nil ?_
      refine J.seq ?_
      refine J.seq ?_
      refine J.region ?_
      refine O.p (Pu.assign rfl) rfl ?_
      refine O.nil ?_
      refine J.block ?_
      refine J.nilRow 30 4 ?_
      refine J.loop (X := Nat × Value × List Kw) (fun ξ => ξ.1 ≤ 8 ∧ ξ.2.2 = Sh.rowN (Sh.upd d (tn : Int) (⟨(tn : Int), thr, ep, Sh.tick now⟩ : Kw)) ξ.1 ∧ ξ.2.2.length ≤ ξ.1) (fun ξ => [(0, kv), (1, .int .i64 (tn : Int)), (10, Value.slice none 0 0), (11, .bool false), (12, .pointer (some ⟨g8, 0, none⟩)), (14, ξ.2.1), (15, .int .i64 (ξ.1 : Int))]) (fun ξ => [row ξ.2.1 30 4 (ξ.2.2.map Kw.cells), row kv 30 4 ((Sh.row d).map Kw.cells), var g8 [.int .i64 (tn : Int), .int .i64 thr, .int .i64 ep, .int .i64 (Sh.tick now)] 30]) (fun ξ => 8 - ξ.1) ⟨0, Value.slice none 0 0, ([] : List Kw)⟩ (show 0 ≤ 8 ∧ ([] : List Kw) = Sh.rowN (Sh.upd d (tn : Int) (⟨(tn : Int), thr, ep, Sh.tick now⟩ : Kw)) 0 ∧ ([] : List Kw).length ≤ 0 from ⟨by omega, rfl, by simp⟩) ⟨rfl, rfl, rfl, rfl, rfl, rfl, (congrArg (fun z => some (Value.int .i64 z)) (by first | rfl | omega : (0 : Int) = (0 : Int))), trivial⟩ [0, 2, 1] (by decide) rfl ?_
      rintro ⟨n, V, o⟩ hq50
      obtain ⟨hn, ho, hol⟩ : n ≤ 8 ∧ o = Sh.rowN (Sh.upd d (tn : Int) (⟨(tn : Int), thr, ep, Sh.tick now⟩ : Kw)) n ∧ o.length ≤ n := hq50
      show J _ _ [(0, kv), (1, .int .i64 (tn : Int)), (10, Value.slice none 0 0), (11, .bool false), (12, .pointer (some ⟨g8, 0, none⟩)), (14, V), (15, .int .i64 (n : Int))] [row V 30 4 (o.map Kw.cells), row kv 30 4 ((Sh.row d).map Kw.cells), var g8 [.int .i64 (tn : Int), .int .i64 thr, .int .i64 ep, .int .i64 (Sh.tick now)] 30]
      refine J.seq ?_
      refine J.seq ?_
      refine J.region ?_
      refine O.p (Pu.move rfl) rfl ?_
      refine O.p (Pu.lss rfl rfl) rfl ?_
      refine O.nil ?_
      refine J.cond rfl (fun h51 => ?_) (fun h51 => ?_)
      ·
       have p52 := of_decide_eq_true h51
       refine J.skip ?_
       refine J.seq ?_
       refine J.block ?_
       refine J.seq ?_
       refine J.region ?_
       refine O.p (Pu.move rfl) rfl ?_
       refine O.p (Pu.move rfl) rfl ?_
       refine O.l (Lo.call [kv, .int .i64 (n : Int)] (by exact Try.call22) rfl (r21_Find kv (Sh.row d) (n : Int) (by omega)) [] [0, 1, 2] (by decide) rfl [row V 30 4 (o.map Kw.cells), row kv 30 4 ((Sh.row d).map Kw.cells), var g8 [.int .i64 (tn : Int), .int .i64 thr, .int .i64 ep, .int .i64 (Sh.tick now)] 30] rfl (RoOk.of 1 rfl row_rd [] (by decide) rfl RoOk.nil)) rfl ?_
       rintro _ _ ⟨_, ⟨rfl, rfl⟩, rfl⟩
       refine O.p (Pu.assign rfl) rfl ?_
       refine O.nil ?_
       refine J.seq ?_
       rcases Sh.fnd_row0 (j := n) hi (by omega) with ⟨hf14, hd14⟩ | ⟨i14, x14, hf14, hx14, hd14⟩
       ·
        rw [hf14]
        refine J.region ?_
        refine O.p (Pu.move rfl) rfl ?_
        refine O.p (Pu.move rfl) rfl ?_
        refine O.p (Pu.eql rfl rfl) rfl ?_
        refine O.nil ?_
        refine J.cond rfl (fun h54 => ?_) (fun h54 => ?_)
        ·
         have p55 := of_decide_eq_true h54
         refine J.region ?_
         refine O.p (Pu.move rfl) rfl ?_
         refine O.q (Qt.ld rfl (Cel.var 2 rfl) (o := 0) (off := 0) rfl (Cut.agg [.int .i64 (tn : Int), .int .i64 thr, .int .i64 ep, .int .i64 (Sh.tick now)] Try.isAgg30 Try.sizeOf30 rfl rfl)) rfl ?_
         refine O.l (Lo.buildM (s := 4) Kw.cells [(⟨(tn : Int), thr, ep, Sh.tick now⟩ : Kw)] [(0, .agg #[.int .i64 (tn : Int), .int .i64 thr, .int .i64 ep, .int .i64 (Sh.tick now)])] (by exact Try.runUnderlying38) (by exact Try.sizeOf30) (by exact Try.zeroValue30) rfl rfl rfl (by kernel_rfl) rfl rfl) rfl ?_
         rintro V56 _ rfl
         refine O.l (Lo.appendM (s := 4) 1 (by exact Try.underlying38) (by exact (info30).1) (by exact (info30).2.1) (by exact (info30).2.2.1) (by exact (info30).2.2.2) rfl rfl rfl rfl rfl (Src.row 0 rfl) Kw.one (by first | omega | (have h_ := (List.getElem?_eq_some_iff.1 hx5).1; omega) | (have h_ := (List.getElem?_eq_some_iff.1 hx14).1; omega) | (simp only [List.length_append, List.length_cons, List.length_nil]; omega)) (by first | omega | (have h_ := (List.getElem?_eq_some_iff.1 hx5).1; omega) | (have h_ := (List.getElem?_eq_some_iff.1 hx14).1; omega) | (simp only [List.length_append, List.length_cons, List.length_nil]; omega))) rfl ?_
         rintro V57 _ rfl
         refine O.p (Pu.assign rfl) rfl ?_
         refine O.nil ?_
         refine J.blk ?_
         refine J.region ?_
         refine O.p (Pu.move rfl) rfl ?_
         refine O.p (Pu.add' rfl rfl (by first | omega | (simp only [List.length_append, List.length_cons, List.length_nil, List.length_set]; omega))) rfl ?_
         refine O.p (Pu.assign rfl) rfl ?_
         refine O.nil ?_
         exact J.lp ⟨n + 1, V57, o ++ ([(⟨(tn : Int), thr, ep, Sh.tick now⟩ : Kw)])⟩ (show (n + 1) ≤ 8 ∧ (o ++ ([(⟨(tn : Int), thr, ep, Sh.tick now⟩ : Kw)])) = Sh.rowN (Sh.upd d (tn : Int) (⟨(tn : Int), thr, ep, Sh.tick now⟩ : Kw)) (n + 1) ∧ (o ++ ([(⟨(tn : Int), thr, ep, Sh.tick now⟩ : Kw)])).length ≤ (n + 1) from ⟨by omega, (by rw [ho]; exact (Sh.rowN_some (Sh.upd_at (by omega))).symm), (by first | omega | (simp only [List.length_append, List.length_cons, List.length_nil]; omega))⟩) (show 8 - (n + 1) < 8 - n from (by first | omega | (have h_ := (List.getElem?_eq_some_iff.1 hx5).1; omega) | (have h_ := (List.getElem?_eq_some_iff.1 hx14).1; omega) | (simp only [List.length_append, List.length_cons, List.length_nil]; omega))) ⟨rfl, rfl, rfl, rfl, rfl, rfl, (congrArg (fun z => some (Value.int .i64 z)) (by first | rfl | omega : ((n : Int) + 1 : Int) = ((n + 1) : Int))), trivial⟩ [1, 2, 3] (by decide) rfl
        ·
         have p58 := of_decide_eq_false h54
         refine J.seq ?_
         refine J.region ?_
         refine O.p (Pu.move rfl) rfl ?_
         refine O.p (Pu.geq rfl rfl) rfl ?_
         refine O.nil ?_
         refine J.condF rfl rfl ?_
         refine J.skip ?_
         refine J.blk ?_
         refine J.region ?_
         refine O.p (Pu.move rfl) rfl ?_
         refine O.p (Pu.add' rfl rfl (by first | omega | (simp only [List.length_append, List.length_cons, List.length_nil, List.length_set]; omega))) rfl ?_
         refine O.p (Pu.assign rfl) rfl ?_
         refine O.nil ?_
         exact J.lp ⟨n + 1, V, o⟩ (show (n + 1) ≤ 8 ∧ o = Sh.rowN (Sh.upd d (tn : Int) (⟨(tn : Int), thr, ep, Sh.tick now⟩ : Kw)) (n + 1) ∧ o.length ≤ (n + 1) from ⟨by omega, (by rw [ho]; exact (Sh.rowN_none (by rw [Sh.upd_ne (by omega)]; exact hd14)).symm), (by first | omega | (simp only [List.length_append, List.length_cons, List.length_nil]; omega))⟩) (show 8 - (n + 1) < 8 - n from (by first | omega | (have h_ := (List.getElem?_eq_some_iff.1 hx5).1; omega) | (have h_ := (List.getElem?_eq_some_iff.1 hx14).1; omega) | (simp only [List.length_append, List.length_cons, List.length_nil]; omega))) ⟨rfl, rfl, rfl, rfl, rfl, rfl, (congrArg (fun z => some (Value.int .i64 z)) (by first | rfl | omega : ((n : Int) + 1 : Int) = ((n + 1) : Int))), trivial⟩ [0, 1, 2] (by decide) rfl
       ·
        rw [hf14]
        refine J.region ?_
        refine O.p (Pu.move rfl) rfl ?_
        refine O.p (Pu.move rfl) rfl ?_
        refine O.p (Pu.eql rfl rfl) rfl ?_
        refine O.nil ?_
        refine J.cond rfl (fun h59 => ?_) (fun h59 => ?_)
        ·
         have p60 := of_decide_eq_true h59
         refine J.region ?_
         refine O.p (Pu.move rfl) rfl ?_
         refine O.q (Qt.ld rfl (Cel.var 2 rfl) (o := 0) (off := 0) rfl (Cut.agg [.int .i64 (tn : Int), .int .i64 thr, .int .i64 ep, .int .i64 (Sh.tick now)] Try.isAgg30 Try.sizeOf30 rfl rfl)) rfl ?_
         refine O.l (Lo.buildM (s := 4) Kw.cells [(⟨(tn : Int), thr, ep, Sh.tick now⟩ : Kw)] [(0, .agg #[.int .i64 (tn : Int), .int .i64 thr, .int .i64 ep, .int .i64 (Sh.tick now)])] (by exact Try.runUnderlying38) (by exact Try.sizeOf30) (by exact Try.zeroValue30) rfl rfl rfl (by kernel_rfl) rfl rfl) rfl ?_
         rintro V61 _ rfl
         refine O.l (Lo.appendM (s := 4) 1 (by exact Try.underlying38) (by exact (info30).1) (by exact (info30).2.1) (by exact (info30).2.2.1) (by exact (info30).2.2.2) rfl rfl rfl rfl rfl (Src.row 0 rfl) Kw.one (by first | omega | (have h_ := (List.getElem?_eq_some_iff.1 hx5).1; omega) | (have h_ := (List.getElem?_eq_some_iff.1 hx14).1; omega) | (simp only [List.length_append, List.length_cons, List.length_nil]; omega)) (by first | omega | (have h_ := (List.getElem?_eq_some_iff.1 hx5).1; omega) | (have h_ := (List.getElem?_eq_some_iff.1 hx14).1; omega) | (simp only [List.length_append, List.length_cons, List.length_nil]; omega))) rfl ?_
         rintro V62 _ rfl
         refine O.p (Pu.assign rfl) rfl ?_
         refine O.nil ?_
         refine J.blk ?_
         refine J.region ?_
         refine O.p (Pu.move rfl) rfl ?_
         refine O.p (Pu.add' rfl rfl (by first | omega | (simp only [List.length_append, List.length_cons, List.length_nil, List.length_set]; omega))) rfl ?_
         refine O.p (Pu.assign rfl) rfl ?_
         refine O.nil ?_
         exact J.lp ⟨n + 1, V62, o ++ ([(⟨(tn : Int), thr, ep, Sh.tick now⟩ : Kw)])⟩ (show (n + 1) ≤ 8 ∧ (o ++ ([(⟨(tn : Int), thr, ep, Sh.tick now⟩ : Kw)])) = Sh.rowN (Sh.upd d (tn : Int) (⟨(tn : Int), thr, ep, Sh.tick now⟩ : Kw)) (n + 1) ∧ (o ++ ([(⟨(tn : Int), thr, ep, Sh.tick now⟩ : Kw)])).length ≤ (n + 1) from ⟨by omega, (by rw [ho]; exact (Sh.rowN_some (Sh.upd_at (by omega))).symm), (by first | omega | (simp only [List.length_append, List.length_cons, List.length_nil]; omega))⟩) (show 8 - (n + 1) < 8 - n from (by first | omega | (have h_ := (List.getElem?_eq_some_iff.1 hx5).1; omega) | (have h_ := (List.getElem?_eq_some_iff.1 hx14).1; omega) | (simp only [List.length_append, List.length_cons, List.length_nil]; omega))) ⟨rfl, rfl, rfl, rfl, rfl, rfl, (congrArg (fun z => some (Value.int .i64 z)) (by first | rfl | omega : ((n : Int) + 1 : Int) = ((n + 1) : Int))), trivial⟩ [1, 2, 3] (by decide) rfl
        ·
         have p63 := of_decide_eq_false h59
         refine J.seq ?_
         refine J.region ?_
         refine O.p (Pu.move rfl) rfl ?_
         refine O.p (Pu.geq rfl rfl) rfl ?_
         refine O.nil ?_
         refine J.condT rfl (decide_eq_true (by omega)) ?_
         refine J.region ?_
         refine O.p (Pu.move rfl) rfl ?_
         refine O.p (Pu.move rfl) rfl ?_
         refine O.p (Pu.move rfl) rfl ?_
         refine O.q (Qt.idxM Try.runUnderlying38 Try.sizeOf30 rfl (Src.row 1 rfl) rfl (by first | omega | (have h_ := (List.getElem?_eq_some_iff.1 hx5).1; omega) | (have h_ := (List.getElem?_eq_some_iff.1 hx14).1; omega) | (simp only [List.length_append, List.length_cons, List.length_nil]; omega)) (by first | omega | (have h_ := (List.getElem?_eq_some_iff.1 hx5).1; omega) | (have h_ := (List.getElem?_eq_some_iff.1 hx14).1; omega) | (simp only [List.length_append, List.length_cons, List.length_nil]; omega))) rfl ?_
         refine O.q (Qt.ld rfl (Cel.eltM (Src.row 1 rfl) hx14) (o := (voff kv + i14 * 4)) (off := 0) (by omega) (Cut.agg [.int .i64 x14.to, .int .i64 x14.thr, .int .i64 x14.ep, .int .i64 x14.at_] Try.isAgg30 Try.sizeOf30 rfl rfl)) rfl ?_
         refine O.l (Lo.buildM (s := 4) Kw.cells [x14] [(0, .agg #[.int .i64 x14.to, .int .i64 x14.thr, .int .i64 x14.ep, .int .i64 x14.at_])] (by exact Try.runUnderlying38) (by exact Try.sizeOf30) (by exact Try.zeroValue30) rfl rfl rfl (by kernel_rfl) rfl rfl) rfl ?_
         rintro V64 _ rfl
         refine O.l (Lo.appendM (s := 4) 1 (by exact Try.underlying38) (by exact (info30).1) (by exact (info30).2.1) (by exact (info30).2.2.1) (by exact (info30).2.2.2) rfl rfl rfl rfl rfl (Src.row 0 rfl) Kw.one (by first | omega | (have h_ := (List.getElem?_eq_some_iff.1 hx5).1; omega) | (have h_ := (List.getElem?_eq_some_iff.1 hx14).1; omega) | (simp only [List.length_append, List.length_cons, List.length_nil]; omega)) (by first | omega | (have h_ := (List.getElem?_eq_some_iff.1 hx5).1; omega) | (have h_ := (List.getElem?_eq_some_iff.1 hx14).1; omega) | (simp only [List.length_append, List.length_cons, List.length_nil]; omega))) rfl ?_
         rintro V65 _ rfl
         refine O.p (Pu.assign rfl) rfl ?_
         refine O.nil ?_
         refine J.blk ?_
         refine J.region ?_
         refine O.p (Pu.move rfl) rfl ?_
         refine O.p (Pu.add' rfl rfl (by first | omega | (simp only [List.length_append, List.length_cons, List.length_nil, List.length_set]; omega))) rfl ?_
         refine O.p (Pu.assign rfl) rfl ?_
         refine O.nil ?_
         exact J.lp ⟨n + 1, V65, o ++ ([x14])⟩ (show (n + 1) ≤ 8 ∧ (o ++ ([x14])) = Sh.rowN (Sh.upd d (tn : Int) (⟨(tn : Int), thr, ep, Sh.tick now⟩ : Kw)) (n + 1) ∧ (o ++ ([x14])).length ≤ (n + 1) from ⟨by omega, (by rw [ho]; exact (Sh.rowN_some (by rw [Sh.upd_ne (by omega)]; exact hd14)).symm), (by first | omega | (simp only [List.length_append, List.length_cons, List.length_nil]; omega))⟩) (show 8 - (n + 1) < 8 - n from (by first | omega | (have h_ := (List.getElem?_eq_some_iff.1 hx5).1; omega) | (have h_ := (List.getElem?_eq_some_iff.1 hx14).1; omega) | (simp only [List.length_append, List.length_cons, List.length_nil]; omega))) ⟨rfl, rfl, rfl, rfl, rfl, rfl, (congrArg (fun z => some (Value.int .i64 z)) (by first | rfl | omega : ((n : Int) + 1 : Int) = ((n + 1) : Int))), trivial⟩ [1, 2, 3] (by decide) rfl
      ·
       have p66 := of_decide_eq_false h51
       refine J.exit _ rfl ?_
       refine J.seq ?_
       refine J.region ?_
       refine O.p (Pu.move rfl) rfl ?_
       refine O.p (Pu.assign rfl) rfl ?_
       refine O.p (Pu.assign rfl) rfl ?_
       refine O.nil ?_
       exact J.ret (Fin.ret (rs := [.tmp 10, .tmp 11]) rfl [_, _] ⟨rfl, rfl, trivial⟩ [0] (by decide) [row V 30 4 (o.map Kw.cells)] rfl ⟨V, (by rw [Sh.lrn_more (to := (tn : Int)) (Sh.has_iff.2 (by omega)) (by simpa using hd5) (by omega)]; rfl), (by rw [Sh.lrn_more (to := (tn : Int)) (Sh.has_iff.2 (by omega)) (by simpa using hd5) (by omega)]; exact congrArg (fun (z_ : List Kw) => ([row V 30 4 (z_.map Kw.cells)] : List Sp)) (show o = Sh.rowN (Sh.upd d (tn : Int) (⟨(tn : Int), thr, ep, Sh.tick now⟩ : Kw)) 8 from (by rw [ho, show n = 8 from by omega])))⟩)

set_option maxRecDepth 100000 in
theorem r21_All (kv : Value) (m : List Kw) (ttl now : Int) (hm : m.length ≤ 1000) : Tri Try.prog 21 #[kv, .int .i64 ttl, .int .i64 now] [rd kv 4 (m.map Kw.cells)] [] (fun v L' => L' = [row v 30 4 ((m.filter (Sh.old ttl now)).map Kw.cells)]) := by
 refine Tri.enter (args := [kv, .int .i64 ttl, .int .i64 now]) (body := _) 32 Try.func21 rfl Try.ntmps21 rfl ?_
 intro w0
 refine J.seq ?_
 refine J.region ?_
 refine O.p (Pu.assign rfl) rfl ?_
 refine O.nil ?_
 refine J.seq ?_
 refine J.region ?_
 refine O.p (Pu.assign rfl) rfl ?_
 refine O.nil ?_
 refine J.seq ?_
 refine J.seq ?_
 refine J.region ?_
 refine O.p (Pu.assign rfl) rfl ?_
 refine O.nil ?_
 refine J.block ?_
 refine J.nilRow 30 4 ?_
 refine J.loop (X := Nat × Value × List Kw) (fun ξ => ξ.1 ≤ m.length ∧ ξ.2.2 = Sh.allK m ttl now ξ.1 ∧ ξ.2.2.length ≤ ξ.1) (fun ξ => [(0, kv), (1, .int .i64 ttl), (2, .int .i64 now), (6, Value.slice none 0 0), (7, ξ.2.1), (8, .int .i64 (ξ.1 : Int))]) (fun ξ => [row ξ.2.1 30 4 (ξ.2.2.map Kw.cells)]) (fun ξ => m.length - ξ.1) ⟨0, Value.slice none 0 0, ([] : List Kw)⟩ (show 0 ≤ m.length ∧ ([] : List Kw) = Sh.allK m ttl now 0 ∧ ([] : List Kw).length ≤ 0 from ⟨by omega, rfl, by simp⟩) ⟨rfl, rfl, rfl, rfl, rfl, (congrArg (fun z => some (Value.int .i64 z)) (by first | rfl | omega : (0 : Int) = (0 : Int))), trivial⟩ [0] (by decide) rfl ?_
 rintro ⟨k, V, o⟩ hq1
 obtain ⟨hk, ho, hol⟩ : k ≤ m.length ∧ o = Sh.allK m ttl now k ∧ o.length ≤ k := hq1
 show J _ _ [(0, kv), (1, .int .i64 ttl), (2, .int .i64 now), (6, Value.slice none 0 0), (7, V), (8, .int .i64 (k : Int))] [row V 30 4 (o.map Kw.cells)]
 refine J.seq ?_
 refine J.seq ?_
 refine J.region ?_
 refine O.p (Pu.move rfl) rfl ?_
 refine O.p (Pu.move rfl) rfl ?_
 refine O.q (Qt.lenM Try.runUnderlying38 rfl (Src.ro 0 rfl)) rfl ?_
 refine O.p (Pu.lss rfl rfl) rfl ?_
 refine O.nil ?_
 refine J.cond rfl (fun h2 => ?_) (fun h2 => ?_)
 ·
  have p3 := of_decide_eq_true h2
  refine J.skip ?_
  refine J.seq ?_
  refine J.block ?_
  refine J.seq ?_
  refine J.region ?_
  refine O.p (Pu.move rfl) rfl ?_
  refine O.p (Pu.move rfl) rfl ?_
  refine O.p (Pu.move rfl) rfl ?_
  obtain ⟨e4, he4⟩ : ∃ x_, m[k]? = some x_ := ⟨_, List.getElem?_eq_getElem (by first | omega | (simp only [List.length_append, List.length_cons, List.length_nil]; omega))⟩
  refine O.q (Qt.idxM Try.runUnderlying38 Try.sizeOf30 rfl (Src.ro 0 rfl) rfl (by first | omega | (simp only [List.length_append, List.length_cons, List.length_nil]; omega)) (by first | omega | (simp only [List.length_append, List.length_cons, List.length_nil]; omega))) rfl ?_
  refine O.p (Pu.fieldAddr (off' := voff kv + ((k : Int)).toNat * 4 + 3) Try.runUnderlying30 rfl Try.sizeOf3 rfl rfl rfl) rfl ?_
  refine O.q (Qt.ld rfl (Cel.eltM (Src.ro 0 rfl) he4) (o := (voff kv + k * 4)) (off := 3) (by omega) (Cut.one Try.isAgg3 rfl)) rfl ?_
  refine O.l (Lo.call [.int .i64 now, .int .i64 e4.at_] (by exact Try.call33) rfl (r01_Left now e4.at_) [] [0] (by decide) rfl [row V 30 4 (o.map Kw.cells)] rfl RoOk.nil) rfl ?_
  rintro _ _ ⟨_, ⟨rfl, rfl⟩, rfl⟩
  refine O.p (Pu.move rfl) rfl ?_
  refine O.p (Pu.leq rfl rfl) rfl ?_
  refine O.nil ?_
  refine J.cond rfl (fun h6 => ?_) (fun h6 => ?_)
  ·
   have p7 := of_decide_eq_true h6
   refine J.region ?_
   refine O.p (Pu.move rfl) rfl ?_
   refine O.p (Pu.move rfl) rfl ?_
   refine O.p (Pu.move rfl) rfl ?_
   refine O.q (Qt.idxM Try.runUnderlying38 Try.sizeOf30 rfl (Src.ro 0 rfl) rfl (by first | omega | (simp only [List.length_append, List.length_cons, List.length_nil]; omega)) (by first | omega | (simp only [List.length_append, List.length_cons, List.length_nil]; omega))) rfl ?_
   refine O.q (Qt.ld rfl (Cel.eltM (Src.ro 0 rfl) he4) (o := (voff kv + k * 4)) (off := 0) (by omega) (Cut.agg [.int .i64 e4.to, .int .i64 e4.thr, .int .i64 e4.ep, .int .i64 e4.at_] Try.isAgg30 Try.sizeOf30 rfl rfl)) rfl ?_
   refine O.l (Lo.buildM (s := 4) Kw.cells [e4] [(0, .agg #[.int .i64 e4.to, .int .i64 e4.thr, .int .i64 e4.ep, .int .i64 e4.at_])] (by exact Try.runUnderlying38) (by exact Try.sizeOf30) (by exact Try.zeroValue30) rfl rfl rfl (by kernel_rfl) rfl rfl) rfl ?_
   rintro V8 _ rfl
   refine O.l (Lo.appendM (s := 4) 1 (by exact Try.underlying38) (by exact (info30).1) (by exact (info30).2.1) (by exact (info30).2.2.1) (by exact (info30).2.2.2) rfl rfl rfl rfl rfl (Src.row 0 rfl) Kw.one (by first | omega | (simp only [List.length_append, List.length_cons, List.length_nil]; omega)) (by first | omega | (simp only [List.length_append, List.length_cons, List.length_nil]; omega))) rfl ?_
   rintro V9 _ rfl
   refine O.p (Pu.assign rfl) rfl ?_
   refine O.nil ?_
   refine J.blk ?_
   refine J.region ?_
   refine O.p (Pu.move rfl) rfl ?_
   refine O.p (Pu.add' rfl rfl (by first | omega | (simp only [List.length_append, List.length_cons, List.length_nil, List.length_set]; omega))) rfl ?_
   refine O.p (Pu.assign rfl) rfl ?_
   refine O.nil ?_
   exact J.lp ⟨k + 1, V9, o ++ ([e4])⟩ (show (k + 1) ≤ m.length ∧ (o ++ ([e4])) = Sh.allK m ttl now (k + 1) ∧ (o ++ ([e4])).length ≤ (k + 1) from ⟨by omega, (by rw [ho]; first | exact (Sh.allK_yes he4 ‹_›).symm | exact (Sh.allK_no he4 ‹_›).symm), (by first | omega | (simp only [List.length_append, List.length_cons, List.length_nil]; omega))⟩) (show m.length - (k + 1) < m.length - k from (by first | omega | (simp only [List.length_append, List.length_cons, List.length_nil]; omega))) ⟨rfl, rfl, rfl, rfl, rfl, (congrArg (fun z => some (Value.int .i64 z)) (by first | rfl | omega : ((k : Int) + 1 : Int) = ((k + 1) : Int))), trivial⟩ [1] (by decide) rfl
  ·
   have p10 := of_decide_eq_false h6
   refine J.skip ?_
   refine J.blk ?_
   refine J.region ?_
   refine O.p (Pu.move rfl) rfl ?_
   refine O.p (Pu.add' rfl rfl (by first | omega | (simp only [List.length_append, List.length_cons, List.length_nil, List.length_set]; omega))) rfl ?_
   refine O.p (Pu.assign rfl) rfl ?_
   refine O.nil ?_
   exact J.lp ⟨k + 1, V, o⟩ (show (k + 1) ≤ m.length ∧ o = Sh.allK m ttl now (k + 1) ∧ o.length ≤ (k + 1) from ⟨by omega, (by rw [ho]; first | exact (Sh.allK_yes he4 ‹_›).symm | exact (Sh.allK_no he4 ‹_›).symm), (by first | omega | (simp only [List.length_append, List.length_cons, List.length_nil]; omega))⟩) (show m.length - (k + 1) < m.length - k from (by first | omega | (simp only [List.length_append, List.length_cons, List.length_nil]; omega))) ⟨rfl, rfl, rfl, rfl, rfl, (congrArg (fun z => some (Value.int .i64 z)) (by first | rfl | omega : ((k : Int) + 1 : Int) = ((k + 1) : Int))), trivial⟩ [0] (by decide) rfl
 ·
  have p11 := of_decide_eq_false h2
  refine J.exit _ rfl ?_
  refine J.seq ?_
  refine J.region ?_
  refine O.p (Pu.move rfl) rfl ?_
  refine O.p (Pu.assign rfl) rfl ?_
  refine O.nil ?_
  exact J.ret (Fin.ret (rs := [.tmp 6]) rfl [_] ⟨rfl, trivial⟩ [0] (by decide) [row V 30 4 (o.map Kw.cells)] rfl (congrArg (fun (z_ : List Kw) => ([row V 30 4 (z_.map Kw.cells)] : List Sp)) (show o = m.filter (Sh.old ttl now) from (by rw [ho, Sh.allK_all (by omega)]))))

set_option maxRecDepth 100000 in
theorem r21_Same (av bv : Value) (m : List Kw) (hm : m.length ≤ 1000) : Tri Try.prog 9 #[av, bv] [rd av 4 (m.map Kw.cells), rd bv 4 (m.map Kw.cells)] [] (fun v L' => v = .bool true ∧ L' = []) := by
 refine Tri.enter (args := [av, bv]) (body := _) 32 Try.func9 rfl Try.ntmps9 rfl ?_
 intro w0
 refine J.seq ?_
 refine J.region ?_
 refine O.p (Pu.assign rfl) rfl ?_
 refine O.nil ?_
 refine J.seq ?_
 refine J.seq ?_
 refine J.region ?_
 refine O.p (Pu.move rfl) rfl ?_
 refine O.q (Qt.lenM Try.runUnderlying38 rfl (Src.ro 0 rfl)) rfl ?_
 refine O.p (Pu.move rfl) rfl ?_
 refine O.q (Qt.lenM Try.runUnderlying38 rfl (Src.ro 1 rfl)) rfl ?_
 refine O.p (Pu.neq rfl rfl) rfl ?_
 refine O.nil ?_
 refine J.condF rfl (by simp) ?_
 refine J.skip ?_
 refine J.seq ?_
 refine J.seq ?_
 refine J.region ?_
 refine O.p (Pu.assign rfl) rfl ?_
 refine O.nil ?_
 refine J.block ?_
 refine J.loop (X := Nat) (fun ξ => ξ ≤ m.length) (fun ξ => [(0, av), (1, bv), (5, .int .i64 (ξ : Int))]) (fun ξ => []) (fun ξ => m.length - ξ) 0 (show 0 ≤ m.length from (by omega)) ⟨rfl, rfl, (congrArg (fun z => some (Value.int .i64 z)) (by first | rfl | omega : (0 : Int) = (0 : Int))), trivial⟩ [] (by decide) rfl ?_
 rintro k hq1
 obtain hk : k ≤ m.length := hq1
 show J _ _ [(0, av), (1, bv), (5, .int .i64 (k : Int))] []
 refine J.seq ?_
 refine J.seq ?_
 refine J.region ?_
 refine O.p (Pu.move rfl) rfl ?_
 refine O.p (Pu.move rfl) rfl ?_
 refine O.q (Qt.lenM Try.runUnderlying38 rfl (Src.ro 0 rfl)) rfl ?_
 refine O.p (Pu.lss rfl rfl) rfl ?_
 refine O.p (Pu.move rfl) rfl ?_
 refine by_bool (decide ((k : Int) < (m.length : Int))) (fun h2 => ?_) (fun h2 => ?_)
 ·
  have p3 := of_decide_eq_true h2
  refine O.gq (t := 15) rfl rfl h2 rfl (Pu.qt (Pu.move rfl)) rfl ?_
  refine O.gq (t := 15) rfl rfl h2 rfl (Pu.qt (Pu.move rfl)) rfl ?_
  refine O.gq (t := 15) rfl rfl h2 rfl (Qt.lenM Try.runUnderlying38 rfl (Src.ro 1 rfl)) rfl ?_
  refine O.gq (t := 15) rfl rfl h2 rfl (Pu.qt (Pu.lss rfl rfl)) rfl ?_
  refine O.p (Pu.pickT rfl h2 rfl) rfl ?_
  refine O.nil ?_
  refine J.condT rfl h2 ?_
  refine J.skip ?_
  refine J.seq ?_
  refine J.block ?_
  refine J.seq ?_
  refine J.drawStill Try.mixed (by kernel_rfl) ?_
  refine S.p (Pu.move rfl) rfl ?_
  refine S.p (Pu.move rfl) rfl ?_
  obtain ⟨e4, he4⟩ : ∃ x_, m[k]? = some x_ := ⟨_, List.getElem?_eq_getElem (by omega)⟩
  refine S.q (Qt.idxM Try.runUnderlying38 Try.sizeOf30 rfl (Src.ro 0 rfl) rfl (by omega) (by omega)) rfl ?_
  refine S.q (Qt.ld rfl (Cel.eltM (Src.ro 0 rfl) he4) (o := (voff av + k * 4)) (off := 0) (by omega) (Cut.agg [.int .i64 e4.to, .int .i64 e4.thr, .int .i64 e4.ep, .int .i64 e4.at_] Try.isAgg30 Try.sizeOf30 rfl rfl)) rfl ?_
  refine S.p (Pu.move rfl) rfl ?_
  refine S.p (Pu.move rfl) rfl ?_
  refine S.q (Qt.idxM Try.runUnderlying38 Try.sizeOf30 rfl (Src.ro 1 rfl) rfl (by omega) (by omega)) rfl ?_
  refine S.q (Qt.ld rfl (Cel.eltM (Src.ro 1 rfl) he4) (o := (voff bv + k * 4)) (off := 0) (by omega) (Cut.agg [.int .i64 e4.to, .int .i64 e4.thr, .int .i64 e4.ep, .int .i64 e4.at_] Try.isAgg30 Try.sizeOf30 rfl rfl)) rfl ?_
  refine S.p (Pu.neqI [e4.to, e4.thr, e4.ep, e4.at_] [e4.to, e4.thr, e4.ep, e4.at_] Try.underlying30 Try.stoodInHeld30 Try.eqGuardType30 (fint30 Try.underlying30) rfl rfl rfl rfl) rfl ?_
  refine S.endJ ?_
  refine J.condF rfl (not_of_true (by simp)) ?_
  refine J.skip ?_
  refine J.blk ?_
  refine J.region ?_
  refine O.p (Pu.move rfl) rfl ?_
  refine O.p (Pu.add' rfl rfl (by first | omega | (simp only [List.length_append, List.length_cons, List.length_nil, List.length_set]; omega))) rfl ?_
  refine O.p (Pu.assign rfl) rfl ?_
  refine O.nil ?_
  exact J.lp (k + 1) (show (k + 1) ≤ m.length from (by omega)) (show m.length - (k + 1) < m.length - k from (by omega)) ⟨rfl, rfl, (congrArg (fun z => some (Value.int .i64 z)) (by first | rfl | omega : ((k : Int) + 1 : Int) = ((k + 1) : Int))), trivial⟩ [] (by decide) rfl
 ·
  have p5 := of_decide_eq_false h2
  refine O.gskip (t := 15) rfl rfl (no_bool (by rw [h2]; decide)) rfl rfl ?_
  refine O.gskip (t := 15) rfl rfl (no_bool (by rw [h2]; decide)) rfl rfl ?_
  refine O.gskip (t := 15) rfl rfl (no_bool (by rw [h2]; decide)) rfl rfl ?_
  refine O.gskip (t := 15) rfl rfl (no_bool (by rw [h2]; decide)) rfl rfl ?_
  refine O.p (Pu.pickF rfl h2 rfl) rfl ?_
  refine O.nil ?_
  refine J.condF rfl rfl ?_
  refine J.exit _ rfl ?_
  refine J.seq ?_
  refine J.region ?_
  refine O.p (Pu.assign rfl) rfl ?_
  refine O.nil ?_
  exact J.ret (Fin.ret (rs := [.tmp 4]) rfl [_] ⟨rfl, trivial⟩ [] (by decide) [] rfl ⟨rfl, rfl⟩)

end Go.Proofs.Ytdnalilglacjbaa
