/-
  Walks, printed by a program of mine (lk.py): each function meets its contract.
-/
import Derived.KernelRfl
import Derived.Test.YtdnalilglacjbaaSX3
import Derived.Test.YtdnalilglacjbaaLk35
import Derived.Test.YtdnalilglacjbaaLkB
namespace Go.Proofs.Ytdnalilglacjbaa
open Go Go.LK
set_option linter.unusedSimpArgs false

set_option maxRecDepth 100000 in
theorem sd_Published (s n : Int) (lv : Value) (l : List Ev) (hl : l.length ≤ 1000) : Tri Try.prog 10 #[.int .i64 s, .int .i64 n, lv] [rd lv 7 (l.map Ev.cells)] [] (fun v L' => L' = [row v 30 4 ((Sh.pub s n l).map Kw.cells)]) := by
 refine Tri.enter (args := [.int .i64 s, .int .i64 n, lv]) (body := _) 43 Try.func10 rfl Try.ntmps10 rfl ?_
 intro w0
 refine J.seq ?_
 refine J.region ?_
 refine O.p (Pu.assign rfl) rfl ?_
 refine O.nil ?_
 refine J.seq ?_
 refine J.region ?_
 refine O.p (Pu.move rfl) rfl ?_
 refine O.p (Pu.move rfl) rfl ?_
 refine O.p (Pu.build [(0, .int .i64 s), (1, .int .i64 n), (2, .int .i64 1)] [.int .i64 s, .int .i64 n, .int .i64 1, .int .i64 0] #[(0, 1), (1, 1), (2, 1), (3, 1)] Try.runUnderlying30 Try.zeroValue30 (places30 Try.underlying30) rfl (by kernel_rfl)) rfl ?_
 refine O.l (Lo.buildM (s := 4) Kw.cells [(⟨s, n, 1, 0⟩ : Kw)] [(0, .agg #[.int .i64 s, .int .i64 n, .int .i64 1, .int .i64 0])] (by exact Try.runUnderlying38) (by exact Try.sizeOf30) (by exact Try.zeroValue30) rfl rfl rfl (by kernel_rfl) rfl rfl) rfl ?_
 rintro V1 _ rfl
 refine O.p (Pu.assign rfl) rfl ?_
 refine O.nil ?_
 refine J.seq ?_
 refine J.seq ?_
 refine J.region ?_
 refine O.p (Pu.move rfl) rfl ?_
 refine O.p (Pu.move rfl) rfl ?_
 refine O.l (Lo.call [.int .i64 s, lv] (by exact Try.call17) rfl (trace_of s lv l (by omega)) [] [0] (by decide) rfl [row V1 30 4 (([(⟨s, n, 1, 0⟩ : Kw)]).map Kw.cells)] rfl (RoOk.ro 0 rfl [] rfl RoOk.nil)) rfl ?_
 rintro v2 _ ⟨_, rfl, rfl⟩
 refine O.q (Qt.lenM Try.runUnderlying26 rfl (Src.row 0 rfl)) rfl ?_
 refine O.p (Pu.move rfl) rfl ?_
 refine O.nil ?_
 refine J.block ?_
 refine J.loop (X := Nat × Value × List Kw) (fun ξ => ξ.1 ≤ (Mono.of s l).length ∧ ξ.2.2 = Sh.pubK s n (Mono.of s l) ξ.1) (fun ξ => [(0, .int .i64 s), (6, Value.slice none 0 0), (7, ξ.2.1), (16, v2), (17, .int .i64 ((Mono.of s l).length : Int)), (18, .int .i64 (ξ.1 : Int))]) (fun ξ => [row v2 45 7 ((Mono.of s l).map Ev.cells), row ξ.2.1 30 4 (ξ.2.2.map Kw.cells)]) (fun ξ => (Mono.of s l).length - ξ.1) ⟨0, V1, [(⟨s, n, 1, 0⟩ : Kw)]⟩ (show 0 ≤ (Mono.of s l).length ∧ ([(⟨s, n, 1, 0⟩ : Kw)]) = Sh.pubK s n (Mono.of s l) 0 from ⟨by omega, rfl⟩) ⟨rfl, rfl, rfl, rfl, rfl, (congrArg (fun z => some (Value.int .i64 z)) (by first | rfl | omega : (0 : Int) = (0 : Int))), trivial⟩ [0, 1] (by decide) rfl ?_
 rintro ⟨k, V, o⟩ hq3
 obtain ⟨hk, ho⟩ : k ≤ (Mono.of s l).length ∧ o = Sh.pubK s n (Mono.of s l) k := hq3
 show J _ _ [(0, .int .i64 s), (6, Value.slice none 0 0), (7, V), (16, v2), (17, .int .i64 ((Mono.of s l).length : Int)), (18, .int .i64 (k : Int))] [row v2 45 7 ((Mono.of s l).map Ev.cells), row V 30 4 (o.map Kw.cells)]
 refine J.seq ?_
 refine J.region ?_
 refine O.p (Pu.lss rfl rfl) rfl ?_
 refine O.nil ?_
 refine J.seq ?_
 refine J.cond rfl (fun h4 => ?_) (fun h4 => ?_)
 ·
  have p5 := of_decide_eq_true h4
  refine J.skip ?_
  refine J.seq ?_
  refine J.block ?_
  refine J.seq ?_
  refine J.region ?_
  obtain ⟨e6, he6⟩ : ∃ x_, (Mono.of s l)[k]? = some x_ := ⟨_, List.getElem?_eq_getElem (by first | omega | (have h_ := Sh.pubK_len (s := s) (n := n) (f := Mono.of s l) (k := k); rw [← ho] at h_; have h2_ := Mono.of_len s l; (simp only [List.length_append, List.length_cons, List.length_nil]; omega)))⟩
  refine O.q (Qt.idxM Try.runUnderlying26 Try.sizeOf45 rfl (Src.row 0 rfl) rfl (by first | omega | (have h_ := Sh.pubK_len (s := s) (n := n) (f := Mono.of s l) (k := k); rw [← ho] at h_; have h2_ := Mono.of_len s l; (simp only [List.length_append, List.length_cons, List.length_nil]; omega))) (by first | omega | (have h_ := Sh.pubK_len (s := s) (n := n) (f := Mono.of s l) (k := k); rw [← ho] at h_; have h2_ := Mono.of_len s l; (simp only [List.length_append, List.length_cons, List.length_nil]; omega)))) rfl ?_
  refine O.q (Qt.ld rfl (Cel.eltM (Src.row 0 rfl) he6) (o := (voff v2 + k * 7)) (off := 0) (by omega) (Cut.agg [.int .i64 e6.kind, .int .i64 e6.tick, .int .i64 e6.s, .int .i64 e6.id, .int .i64 e6.code, .int .i64 e6.a, .int .i64 e6.b] Try.isAgg45 Try.sizeOf45 rfl rfl)) rfl ?_
  refine O.l (Lo.alloc [.int .i64 0, .int .i64 0, .int .i64 0, .int .i64 0, .int .i64 0, .int .i64 0, .int .i64 0] (by exact Try.zeroValue45) rfl) rfl ?_
  rintro _ _ ⟨g7, rfl, rfl⟩
  refine O.l0 (Lo.store 0 (vs := [.int .i64 e6.kind, .int .i64 e6.tick, .int .i64 e6.s, .int .i64 e6.id, .int .i64 e6.code, .int .i64 e6.a, .int .i64 e6.b]) [.int .i64 e6.kind, .int .i64 e6.tick, .int .i64 e6.s, .int .i64 e6.id, .int .i64 e6.code, .int .i64 e6.a, .int .i64 e6.b] rfl rfl rfl (by exact Try.sizeOf45) rfl rfl rfl rfl rfl) ?_
  rintro _ _ rfl
  refine O.nil ?_
  refine J.seq ?_
  refine J.region ?_
  refine O.p (Pu.fieldAddr (off' := 0) Try.runUnderlying45 rfl Try.sizeOf3 rfl rfl rfl) rfl ?_
  refine O.q (Qt.ld rfl (Cel.var 0 rfl) (o := 0) (off := 0) rfl (Cut.one Try.isAgg3 rfl)) rfl ?_
  refine O.p (Pu.eql rfl rfl) rfl ?_
  refine O.p (Pu.move rfl) rfl ?_
  refine by_bool (decide (e6.kind = 9)) (fun h8 => ?_) (fun h8 => ?_)
  ·
   have p9 := of_decide_eq_true h8
   refine O.gskip (t := 25) rfl rfl (no_bool (by rw [h8]; decide)) rfl rfl ?_
   refine O.gskip (t := 25) rfl rfl (no_bool (by rw [h8]; decide)) rfl rfl ?_
   refine O.gskip (t := 25) rfl rfl (no_bool (by rw [h8]; decide)) rfl rfl ?_
   refine O.p (Pu.pickT rfl h8 rfl) rfl ?_
   refine O.nil ?_
   refine J.condT rfl rfl ?_
   refine J.region ?_
   refine O.p (Pu.move rfl) rfl ?_
   refine O.p (Pu.move rfl) rfl ?_
   refine O.p (Pu.fieldAddr (off' := 5) Try.runUnderlying45 rfl Try.sizeOf3 rfl rfl rfl) rfl ?_
   refine O.q (Qt.ld rfl (Cel.var 0 rfl) (o := 0) (off := 5) rfl (Cut.one Try.isAgg3 rfl)) rfl ?_
   refine O.p (Pu.fieldAddr (off' := 3) Try.runUnderlying45 rfl Try.sizeOf3 rfl rfl rfl) rfl ?_
   refine O.q (Qt.ld rfl (Cel.var 0 rfl) (o := 0) (off := 3) rfl (Cut.one Try.isAgg3 rfl)) rfl ?_
   refine O.p (Pu.fieldAddr (off' := 1) Try.runUnderlying45 rfl Try.sizeOf3 rfl rfl rfl) rfl ?_
   refine O.q (Qt.ld rfl (Cel.var 0 rfl) (o := 0) (off := 1) rfl (Cut.one Try.isAgg3 rfl)) rfl ?_
   refine O.p (Pu.build [(0, .int .i64 s), (1, .int .i64 e6.a), (2, .int .i64 e6.id), (3, .int .i64 e6.tick)] [.int .i64 s, .int .i64 e6.a, .int .i64 e6.id, .int .i64 e6.tick] #[(0, 1), (1, 1), (2, 1), (3, 1)] Try.runUnderlying30 Try.zeroValue30 (places30 Try.underlying30) rfl (by kernel_rfl)) rfl ?_
   refine O.l (Lo.buildM (s := 4) Kw.cells [(⟨s, e6.a, e6.id, e6.tick⟩ : Kw)] [(0, .agg #[.int .i64 s, .int .i64 e6.a, .int .i64 e6.id, .int .i64 e6.tick])] (by exact Try.runUnderlying38) (by exact Try.sizeOf30) (by exact Try.zeroValue30) rfl rfl rfl (by kernel_rfl) rfl rfl) rfl ?_
   rintro V10 _ rfl
   refine O.l (Lo.appendM (s := 4) 3 (by exact Try.underlying38) (by exact (info30).1) (by exact (info30).2.1) (by exact (info30).2.2.1) (by exact (info30).2.2.2) rfl rfl rfl rfl rfl (Src.row 0 rfl) Kw.one (by first | omega | (have h_ := Sh.pubK_len (s := s) (n := n) (f := Mono.of s l) (k := k); rw [← ho] at h_; have h2_ := Mono.of_len s l; (simp only [List.length_append, List.length_cons, List.length_nil]; omega))) (by first | omega | (have h_ := Sh.pubK_len (s := s) (n := n) (f := Mono.of s l) (k := k); rw [← ho] at h_; have h2_ := Mono.of_len s l; (simp only [List.length_append, List.length_cons, List.length_nil]; omega)))) rfl ?_
   rintro V11 _ rfl
   refine O.p (Pu.assign rfl) rfl ?_
   refine O.nil ?_
   refine J.blk ?_
   refine J.region ?_
   refine O.p (Pu.add' rfl rfl (by first | omega | (have h_ := Mono.of_len s l; omega))) rfl ?_
   refine O.p (Pu.move rfl) rfl ?_
   refine O.nil ?_
   exact J.lp ⟨k + 1, V11, o ++ ([(⟨s, e6.a, e6.id, e6.tick⟩ : Kw)])⟩ (show (k + 1) ≤ (Mono.of s l).length ∧ (o ++ ([(⟨s, e6.a, e6.id, e6.tick⟩ : Kw)])) = Sh.pubK s n (Mono.of s l) (k + 1) from ⟨by omega, (by rw [ho]; exact (Sh.pubK_yes he6 (by omega)).symm)⟩) (show (Mono.of s l).length - (k + 1) < (Mono.of s l).length - k from (by first | omega | (have h_ := Sh.pubK_len (s := s) (n := n) (f := Mono.of s l) (k := k); rw [← ho] at h_; have h2_ := Mono.of_len s l; (simp only [List.length_append, List.length_cons, List.length_nil]; omega)))) ⟨rfl, rfl, rfl, rfl, rfl, (congrArg (fun z => some (Value.int .i64 z)) (by first | rfl | omega : ((k : Int) + 1 : Int) = ((k + 1) : Int))), trivial⟩ [2, 3] (by decide) rfl
  ·
   have p12 := of_decide_eq_false h8
   refine O.gq (t := 25) rfl rfl h8 rfl (Pu.qt (Pu.fieldAddr (off' := 0) Try.runUnderlying45 rfl Try.sizeOf3 rfl rfl rfl)) rfl ?_
   refine O.gq (t := 25) rfl rfl h8 rfl (Qt.ld rfl (Cel.var 0 rfl) (o := 0) (off := 0) rfl (Cut.one Try.isAgg3 rfl)) rfl ?_
   refine O.gq (t := 25) rfl rfl h8 rfl (Pu.qt (Pu.eql rfl rfl)) rfl ?_
   refine O.p (Pu.pickF rfl h8 rfl) rfl ?_
   refine O.nil ?_
   refine J.cond rfl (fun h13 => ?_) (fun h13 => ?_)
   ·
    have p14 := of_decide_eq_true h13
    refine J.region ?_
    refine O.p (Pu.move rfl) rfl ?_
    refine O.p (Pu.move rfl) rfl ?_
    refine O.p (Pu.fieldAddr (off' := 5) Try.runUnderlying45 rfl Try.sizeOf3 rfl rfl rfl) rfl ?_
    refine O.q (Qt.ld rfl (Cel.var 0 rfl) (o := 0) (off := 5) rfl (Cut.one Try.isAgg3 rfl)) rfl ?_
    refine O.p (Pu.fieldAddr (off' := 3) Try.runUnderlying45 rfl Try.sizeOf3 rfl rfl rfl) rfl ?_
    refine O.q (Qt.ld rfl (Cel.var 0 rfl) (o := 0) (off := 3) rfl (Cut.one Try.isAgg3 rfl)) rfl ?_
    refine O.p (Pu.fieldAddr (off' := 1) Try.runUnderlying45 rfl Try.sizeOf3 rfl rfl rfl) rfl ?_
    refine O.q (Qt.ld rfl (Cel.var 0 rfl) (o := 0) (off := 1) rfl (Cut.one Try.isAgg3 rfl)) rfl ?_
    refine O.p (Pu.build [(0, .int .i64 s), (1, .int .i64 e6.a), (2, .int .i64 e6.id), (3, .int .i64 e6.tick)] [.int .i64 s, .int .i64 e6.a, .int .i64 e6.id, .int .i64 e6.tick] #[(0, 1), (1, 1), (2, 1), (3, 1)] Try.runUnderlying30 Try.zeroValue30 (places30 Try.underlying30) rfl (by kernel_rfl)) rfl ?_
    refine O.l (Lo.buildM (s := 4) Kw.cells [(⟨s, e6.a, e6.id, e6.tick⟩ : Kw)] [(0, .agg #[.int .i64 s, .int .i64 e6.a, .int .i64 e6.id, .int .i64 e6.tick])] (by exact Try.runUnderlying38) (by exact Try.sizeOf30) (by exact Try.zeroValue30) rfl rfl rfl (by kernel_rfl) rfl rfl) rfl ?_
    rintro V15 _ rfl
    refine O.l (Lo.appendM (s := 4) 3 (by exact Try.underlying38) (by exact (info30).1) (by exact (info30).2.1) (by exact (info30).2.2.1) (by exact (info30).2.2.2) rfl rfl rfl rfl rfl (Src.row 0 rfl) Kw.one (by first | omega | (have h_ := Sh.pubK_len (s := s) (n := n) (f := Mono.of s l) (k := k); rw [← ho] at h_; have h2_ := Mono.of_len s l; (simp only [List.length_append, List.length_cons, List.length_nil]; omega))) (by first | omega | (have h_ := Sh.pubK_len (s := s) (n := n) (f := Mono.of s l) (k := k); rw [← ho] at h_; have h2_ := Mono.of_len s l; (simp only [List.length_append, List.length_cons, List.length_nil]; omega)))) rfl ?_
    rintro V16 _ rfl
    refine O.p (Pu.assign rfl) rfl ?_
    refine O.nil ?_
    refine J.blk ?_
    refine J.region ?_
    refine O.p (Pu.add' rfl rfl (by first | omega | (have h_ := Mono.of_len s l; omega))) rfl ?_
    refine O.p (Pu.move rfl) rfl ?_
    refine O.nil ?_
    exact J.lp ⟨k + 1, V16, o ++ ([(⟨s, e6.a, e6.id, e6.tick⟩ : Kw)])⟩ (show (k + 1) ≤ (Mono.of s l).length ∧ (o ++ ([(⟨s, e6.a, e6.id, e6.tick⟩ : Kw)])) = Sh.pubK s n (Mono.of s l) (k + 1) from ⟨by omega, (by rw [ho]; exact (Sh.pubK_yes he6 (by omega)).symm)⟩) (show (Mono.of s l).length - (k + 1) < (Mono.of s l).length - k from (by first | omega | (have h_ := Sh.pubK_len (s := s) (n := n) (f := Mono.of s l) (k := k); rw [← ho] at h_; have h2_ := Mono.of_len s l; (simp only [List.length_append, List.length_cons, List.length_nil]; omega)))) ⟨rfl, rfl, rfl, rfl, rfl, (congrArg (fun z => some (Value.int .i64 z)) (by first | rfl | omega : ((k : Int) + 1 : Int) = ((k + 1) : Int))), trivial⟩ [2, 3] (by decide) rfl
   ·
    have p17 := of_decide_eq_false h13
    refine J.skip ?_
    refine J.blk ?_
    refine J.region ?_
    refine O.p (Pu.add' rfl rfl (by first | omega | (have h_ := Mono.of_len s l; omega))) rfl ?_
    refine O.p (Pu.move rfl) rfl ?_
    refine O.nil ?_
    exact J.lp ⟨k + 1, V, o⟩ (show (k + 1) ≤ (Mono.of s l).length ∧ o = Sh.pubK s n (Mono.of s l) (k + 1) from ⟨by omega, (by rw [ho]; exact (Sh.pubK_no he6 (by omega)).symm)⟩) (show (Mono.of s l).length - (k + 1) < (Mono.of s l).length - k from (by first | omega | (have h_ := Sh.pubK_len (s := s) (n := n) (f := Mono.of s l) (k := k); rw [← ho] at h_; have h2_ := Mono.of_len s l; (simp only [List.length_append, List.length_cons, List.length_nil]; omega)))) ⟨rfl, rfl, rfl, rfl, rfl, (congrArg (fun z => some (Value.int .i64 z)) (by first | rfl | omega : ((k : Int) + 1 : Int) = ((k + 1) : Int))), trivial⟩ [1, 2] (by decide) rfl
 ·
  have p18 := of_decide_eq_false h4
  refine J.exit _ rfl ?_
  refine J.seq ?_
  refine J.region ?_
  refine O.p (Pu.move rfl) rfl ?_
  refine O.p (Pu.assign rfl) rfl ?_
  refine O.nil ?_
  exact J.ret (Fin.ret (rs := [.tmp 6]) rfl [_] ⟨rfl, trivial⟩ [1] (by decide) [row V 30 4 (o.map Kw.cells)] rfl (congrArg (fun (z_ : List Kw) => ([row V 30 4 (z_.map Kw.cells)] : List Sp)) (show o = Sh.pub s n l from (by rw [ho]; exact Sh.pubK_all (by omega) (by omega)))))

set_option maxRecDepth 100000 in
theorem r43_Published (s n : Int) (lv : Value) (l : List Ev) (hl : l.length ≤ 1000) : Tri Try.prog 11 #[.int .i64 s, .int .i64 n, lv] [rd lv 7 (l.map Ev.cells)] [] (fun v L' => L' = [row v 30 4 ((Sh.pub s n l).map Kw.cells)]) := by
 refine Tri.enter (args := [.int .i64 s, .int .i64 n, lv]) (body := _) 63 Try.func11 rfl Try.ntmps11 rfl ?_
 intro w0
 refine J.seq ?_
 refine J.region ?_
 refine O.p (Pu.assign rfl) rfl ?_
 refine O.nil ?_
 refine J.seq ?_
 refine J.region ?_
 refine O.p (Pu.move rfl) rfl ?_
 refine O.p (Pu.move rfl) rfl ?_
 refine O.p (Pu.build [(0, .int .i64 s), (1, .int .i64 n), (2, .int .i64 1)] [.int .i64 s, .int .i64 n, .int .i64 1, .int .i64 0] #[(0, 1), (1, 1), (2, 1), (3, 1)] Try.runUnderlying30 Try.zeroValue30 (places30 Try.underlying30) rfl (by kernel_rfl)) rfl ?_
 refine O.l (Lo.buildM (s := 4) Kw.cells [(⟨s, n, 1, 0⟩ : Kw)] [(0, .agg #[.int .i64 s, .int .i64 n, .int .i64 1, .int .i64 0])] (by exact Try.runUnderlying38) (by exact Try.sizeOf30) (by exact Try.zeroValue30) rfl rfl rfl (by kernel_rfl) rfl rfl) rfl ?_
 rintro V1 _ rfl
 refine O.p (Pu.assign rfl) rfl ?_
 refine O.nil ?_
 refine J.seq ?_
 refine J.seq ?_
 refine J.region ?_
 refine O.p (Pu.assign rfl) rfl ?_
 refine O.nil ?_
 refine J.block ?_
 refine J.loop (X := Nat × Value × List Kw) (fun ξ => ξ.1 ≤ (l).length ∧ ξ.2.2 = Sh.pubS s n l ξ.1) (fun ξ => [(0, .int .i64 s), (2, lv), (6, Value.slice none 0 0), (7, ξ.2.1), (8, .int .i64 (ξ.1 : Int))]) (fun ξ => [row ξ.2.1 30 4 (ξ.2.2.map Kw.cells)]) (fun ξ => (l).length - ξ.1) ⟨0, V1, [(⟨s, n, 1, 0⟩ : Kw)]⟩ (show 0 ≤ (l).length ∧ ([(⟨s, n, 1, 0⟩ : Kw)]) = Sh.pubS s n l 0 from ⟨by omega, rfl⟩) ⟨rfl, rfl, rfl, rfl, (congrArg (fun z => some (Value.int .i64 z)) (by first | rfl | omega : (0 : Int) = (0 : Int))), trivial⟩ [0] (by decide) rfl ?_
 rintro ⟨k, V, o⟩ hq2
 obtain ⟨hk, ho⟩ : k ≤ (l).length ∧ o = Sh.pubS s n l k := hq2
 show J _ _ [(0, .int .i64 s), (2, lv), (6, Value.slice none 0 0), (7, V), (8, .int .i64 (k : Int))] [row V 30 4 (o.map Kw.cells)]
 refine J.seq ?_
 refine J.seq ?_
 refine J.region ?_
 refine O.p (Pu.move rfl) rfl ?_
 refine O.p (Pu.move rfl) rfl ?_
 refine O.q (Qt.lenM Try.runUnderlying26 rfl (Src.ro 0 rfl)) rfl ?_
 refine O.p (Pu.lss rfl rfl) rfl ?_
 refine O.nil ?_
 refine J.cond rfl (fun h3 => ?_) (fun h3 => ?_)
 ·
  have p4 := of_decide_eq_true h3
  refine J.skip ?_
  refine J.seq ?_
  refine J.block ?_
  refine J.seq ?_
  refine J.region ?_
  refine O.p (Pu.move rfl) rfl ?_
  refine O.p (Pu.move rfl) rfl ?_
  obtain ⟨e5, he5⟩ : ∃ x_, l[k]? = some x_ := ⟨_, List.getElem?_eq_getElem (by first | omega | (have h_ := Sh.pubS_len (s := s) (n := n) (l := l) (k := k); rw [← ho] at h_; (simp only [List.length_append, List.length_cons, List.length_nil]; omega)))⟩
  refine O.q (Qt.idxM Try.runUnderlying26 Try.sizeOf45 rfl (Src.ro 0 rfl) rfl (by first | omega | (have h_ := Sh.pubS_len (s := s) (n := n) (l := l) (k := k); rw [← ho] at h_; (simp only [List.length_append, List.length_cons, List.length_nil]; omega))) (by first | omega | (have h_ := Sh.pubS_len (s := s) (n := n) (l := l) (k := k); rw [← ho] at h_; (simp only [List.length_append, List.length_cons, List.length_nil]; omega)))) rfl ?_
  refine O.p (Pu.fieldAddr (off' := voff lv + ((k : Int)).toNat * 7 + 2) Try.runUnderlying45 rfl Try.sizeOf3 rfl rfl rfl) rfl ?_
  refine O.q (Qt.ld rfl (Cel.eltM (Src.ro 0 rfl) he5) (o := (voff lv + k * 7)) (off := 2) (by omega) (Cut.one Try.isAgg3 rfl)) rfl ?_
  refine O.p (Pu.move rfl) rfl ?_
  refine O.p (Pu.eql rfl rfl) rfl ?_
  refine O.p (Pu.move rfl) rfl ?_
  refine by_bool (decide (e5.s = s)) (fun h6 => ?_) (fun h6 => ?_)
  ·
   have p7 := of_decide_eq_true h6
   refine O.gq (t := 26) rfl rfl h6 rfl (Pu.qt (Pu.move rfl)) rfl ?_
   refine O.gq (t := 26) rfl rfl h6 rfl (Pu.qt (Pu.move rfl)) rfl ?_
   refine O.gq (t := 26) rfl rfl h6 rfl (Qt.idxM Try.runUnderlying26 Try.sizeOf45 rfl (Src.ro 0 rfl) rfl (by first | omega | (have h_ := Sh.pubS_len (s := s) (n := n) (l := l) (k := k); rw [← ho] at h_; (simp only [List.length_append, List.length_cons, List.length_nil]; omega))) (by first | omega | (have h_ := Sh.pubS_len (s := s) (n := n) (l := l) (k := k); rw [← ho] at h_; (simp only [List.length_append, List.length_cons, List.length_nil]; omega)))) rfl ?_
   refine O.gq (t := 26) rfl rfl h6 rfl (Pu.qt (Pu.fieldAddr (off' := voff lv + ((k : Int)).toNat * 7 + 0) Try.runUnderlying45 rfl Try.sizeOf3 rfl rfl rfl)) rfl ?_
   refine O.gq (t := 26) rfl rfl h6 rfl (Qt.ld rfl (Cel.eltM (Src.ro 0 rfl) he5) (o := (voff lv + k * 7)) (off := 0) (by omega) (Cut.one Try.isAgg3 rfl)) rfl ?_
   refine O.gq (t := 26) rfl rfl h6 rfl (Pu.qt (Pu.eql rfl rfl)) rfl ?_
   refine O.gq (t := 26) rfl rfl h6 rfl (Pu.qt (Pu.move rfl)) rfl ?_
   refine by_bool (decide (e5.kind = 9)) (fun h8 => ?_) (fun h8 => ?_)
   ·
    have p9 := of_decide_eq_true h8
    refine O.gskip (t := 33) rfl rfl (no_bool (by rw [h8]; decide)) rfl rfl ?_
    refine O.gskip (t := 33) rfl rfl (no_bool (by rw [h8]; decide)) rfl rfl ?_
    refine O.gskip (t := 33) rfl rfl (no_bool (by rw [h8]; decide)) rfl rfl ?_
    refine O.gskip (t := 33) rfl rfl (no_bool (by rw [h8]; decide)) rfl rfl ?_
    refine O.gskip (t := 33) rfl rfl (no_bool (by rw [h8]; decide)) rfl rfl ?_
    refine O.gskip (t := 33) rfl rfl (no_bool (by rw [h8]; decide)) rfl rfl ?_
    refine O.gq (t := 26) rfl rfl h6 rfl (Pu.qt (Pu.pickT rfl h8 rfl)) rfl ?_
    refine O.p (Pu.pickT rfl h6 rfl) rfl ?_
    refine O.nil ?_
    refine J.condT rfl rfl ?_
    refine J.drawMix [(0, false), (1, false), (2, false), (3, false), (4, false), (5, false), (6, false), (7, false), (8, false), (9, false), (10, false), (11, false), (12, false), (13, false), (14, false), (15, false), (16, false), (17, false), (18, true), (19, true), (20, false)] [] [] Try.mixed (by kernel_rfl) (by decide) rfl ?_
    refine Mx.p rfl (Pu.move rfl) rfl ?_
    refine Mx.p rfl (Pu.move rfl) rfl ?_
    refine Mx.p rfl (Pu.move rfl) rfl ?_
    refine Mx.p rfl (Pu.move rfl) rfl ?_
    refine Mx.q rfl (Qt.idxM Try.runUnderlying26 Try.sizeOf45 rfl (Src.ro 0 rfl) rfl (by first | omega | (have h_ := Sh.pubS_len (s := s) (n := n) (l := l) (k := k); rw [← ho] at h_; (simp only [List.length_append, List.length_cons, List.length_nil]; omega))) (by first | omega | (have h_ := Sh.pubS_len (s := s) (n := n) (l := l) (k := k); rw [← ho] at h_; (simp only [List.length_append, List.length_cons, List.length_nil]; omega)))) rfl ?_
    refine Mx.p rfl (Pu.fieldAddr (off' := voff lv + ((k : Int)).toNat * 7 + 5) Try.runUnderlying45 rfl Try.sizeOf3 rfl rfl rfl) rfl ?_
    refine Mx.q rfl (Qt.ld rfl (Cel.eltM (Src.ro 0 rfl) he5) (o := (voff lv + k * 7)) (off := 5) (by omega) (Cut.one Try.isAgg3 rfl)) rfl ?_
    refine Mx.p rfl (Pu.move rfl) rfl ?_
    refine Mx.p rfl (Pu.move rfl) rfl ?_
    refine Mx.q rfl (Qt.idxM Try.runUnderlying26 Try.sizeOf45 rfl (Src.ro 0 rfl) rfl (by first | omega | (have h_ := Sh.pubS_len (s := s) (n := n) (l := l) (k := k); rw [← ho] at h_; (simp only [List.length_append, List.length_cons, List.length_nil]; omega))) (by first | omega | (have h_ := Sh.pubS_len (s := s) (n := n) (l := l) (k := k); rw [← ho] at h_; (simp only [List.length_append, List.length_cons, List.length_nil]; omega)))) rfl ?_
    refine Mx.p rfl (Pu.fieldAddr (off' := voff lv + ((k : Int)).toNat * 7 + 3) Try.runUnderlying45 rfl Try.sizeOf3 rfl rfl rfl) rfl ?_
    refine Mx.q rfl (Qt.ld rfl (Cel.eltM (Src.ro 0 rfl) he5) (o := (voff lv + k * 7)) (off := 3) (by omega) (Cut.one Try.isAgg3 rfl)) rfl ?_
    refine Mx.p rfl (Pu.move rfl) rfl ?_
    refine Mx.p rfl (Pu.move rfl) rfl ?_
    refine Mx.q rfl (Qt.idxM Try.runUnderlying26 Try.sizeOf45 rfl (Src.ro 0 rfl) rfl (by first | omega | (have h_ := Sh.pubS_len (s := s) (n := n) (l := l) (k := k); rw [← ho] at h_; (simp only [List.length_append, List.length_cons, List.length_nil]; omega))) (by first | omega | (have h_ := Sh.pubS_len (s := s) (n := n) (l := l) (k := k); rw [← ho] at h_; (simp only [List.length_append, List.length_cons, List.length_nil]; omega)))) rfl ?_
    refine Mx.p rfl (Pu.fieldAddr (off' := voff lv + ((k : Int)).toNat * 7 + 1) Try.runUnderlying45 rfl Try.sizeOf3 rfl rfl rfl) rfl ?_
    refine Mx.q rfl (Qt.ld rfl (Cel.eltM (Src.ro 0 rfl) he5) (o := (voff lv + k * 7)) (off := 1) (by omega) (Cut.one Try.isAgg3 rfl)) rfl ?_
    refine Mx.p rfl (Pu.build [(0, .int .i64 s), (1, .int .i64 e5.a), (2, .int .i64 e5.id), (3, .int .i64 e5.tick)] [.int .i64 s, .int .i64 e5.a, .int .i64 e5.id, .int .i64 e5.tick] #[(0, 1), (1, 1), (2, 1), (3, 1)] Try.runUnderlying30 Try.zeroValue30 (places30 Try.underlying30) rfl (by kernel_rfl)) rfl ?_
    refine Mx.l rfl (Lo.buildM (s := 4) Kw.cells [(⟨s, e5.a, e5.id, e5.tick⟩ : Kw)] [(0, .agg #[.int .i64 s, .int .i64 e5.a, .int .i64 e5.id, .int .i64 e5.tick])] (by exact Try.runUnderlying38) (by exact Try.sizeOf30) (by exact Try.zeroValue30) rfl rfl rfl (by kernel_rfl) rfl rfl) rfl ?_
    rintro V10 _ rfl
    refine MxK.go [] [] [] (by decide) rfl (by decide) rfl ?_
    refine Mx.l rfl (Lo.appendM (s := 4) 1 (by exact Try.underlying38) (by exact (info30).1) (by exact (info30).2.1) (by exact (info30).2.2.1) (by exact (info30).2.2.2) rfl rfl rfl rfl rfl (Src.row 0 rfl) Kw.one (by first | omega | (have h_ := Sh.pubS_len (s := s) (n := n) (l := l) (k := k); rw [← ho] at h_; (simp only [List.length_append, List.length_cons, List.length_nil]; omega))) (by first | omega | (have h_ := Sh.pubS_len (s := s) (n := n) (l := l) (k := k); rw [← ho] at h_; (simp only [List.length_append, List.length_cons, List.length_nil]; omega)))) rfl ?_
    rintro V11 _ rfl
    refine MxK.go [] [] [] (by decide) rfl (by decide) rfl ?_
    refine Mx.p rfl (Pu.assign rfl) rfl ?_
    refine Mx.nil ?_
    refine J.blk ?_
    refine J.region ?_
    refine O.p (Pu.move rfl) rfl ?_
    refine O.p (Pu.add' rfl rfl (by first | omega | (simp only [List.length_append, List.length_cons, List.length_nil, List.length_set]; omega))) rfl ?_
    refine O.p (Pu.assign rfl) rfl ?_
    refine O.nil ?_
    exact J.lp ⟨k + 1, V11, o ++ ([(⟨s, e5.a, e5.id, e5.tick⟩ : Kw)])⟩ (show (k + 1) ≤ (l).length ∧ (o ++ ([(⟨s, e5.a, e5.id, e5.tick⟩ : Kw)])) = Sh.pubS s n l (k + 1) from ⟨by omega, (by rw [ho]; exact (Sh.pubS_yes he5 (by omega) (by omega)).symm)⟩) (show (l).length - (k + 1) < (l).length - k from (by first | omega | (have h_ := Sh.pubS_len (s := s) (n := n) (l := l) (k := k); rw [← ho] at h_; (simp only [List.length_append, List.length_cons, List.length_nil]; omega)))) ⟨rfl, rfl, rfl, rfl, (congrArg (fun z => some (Value.int .i64 z)) (by first | rfl | omega : ((k : Int) + 1 : Int) = ((k + 1) : Int))), trivial⟩ [1] (by decide) rfl
   ·
    have p12 := of_decide_eq_false h8
    refine O.gq (t := 33) rfl rfl h8 rfl (Pu.qt (Pu.move rfl)) rfl ?_
    refine O.gq (t := 33) rfl rfl h8 rfl (Pu.qt (Pu.move rfl)) rfl ?_
    refine O.gq (t := 33) rfl rfl h8 rfl (Qt.idxM Try.runUnderlying26 Try.sizeOf45 rfl (Src.ro 0 rfl) rfl (by first | omega | (have h_ := Sh.pubS_len (s := s) (n := n) (l := l) (k := k); rw [← ho] at h_; (simp only [List.length_append, List.length_cons, List.length_nil]; omega))) (by first | omega | (have h_ := Sh.pubS_len (s := s) (n := n) (l := l) (k := k); rw [← ho] at h_; (simp only [List.length_append, List.length_cons, List.length_nil]; omega)))) rfl ?_
    refine O.gq (t := 33) rfl rfl h8 rfl (Pu.qt (Pu.fieldAddr (off' := voff lv + ((k : Int)).toNat * 7 + 0) Try.runUnderlying45 rfl Try.sizeOf3 rfl rfl rfl)) rfl ?_
    refine O.gq (t := 33) rfl rfl h8 rfl (Qt.ld rfl (Cel.eltM (Src.ro 0 rfl) he5) (o := (voff lv + k * 7)) (off := 0) (by omega) (Cut.one Try.isAgg3 rfl)) rfl ?_
    refine O.gq (t := 33) rfl rfl h8 rfl (Pu.qt (Pu.eql rfl rfl)) rfl ?_
    refine O.gq (t := 26) rfl rfl h6 rfl (Pu.qt (Pu.pickF rfl h8 rfl)) rfl ?_
    refine O.p (Pu.pickT rfl h6 rfl) rfl ?_
    refine O.nil ?_
    refine J.cond rfl (fun h13 => ?_) (fun h13 => ?_)
    ·
     have p14 := of_decide_eq_true h13
     refine J.drawMix [(0, false), (1, false), (2, false), (3, false), (4, false), (5, false), (6, false), (7, false), (8, false), (9, false), (10, false), (11, false), (12, false), (13, false), (14, false), (15, false), (16, false), (17, false), (18, true), (19, true), (20, false)] [] [] Try.mixed (by kernel_rfl) (by decide) rfl ?_
     refine Mx.p rfl (Pu.move rfl) rfl ?_
     refine Mx.p rfl (Pu.move rfl) rfl ?_
     refine Mx.p rfl (Pu.move rfl) rfl ?_
     refine Mx.p rfl (Pu.move rfl) rfl ?_
     refine Mx.q rfl (Qt.idxM Try.runUnderlying26 Try.sizeOf45 rfl (Src.ro 0 rfl) rfl (by first | omega | (have h_ := Sh.pubS_len (s := s) (n := n) (l := l) (k := k); rw [← ho] at h_; (simp only [List.length_append, List.length_cons, List.length_nil]; omega))) (by first | omega | (have h_ := Sh.pubS_len (s := s) (n := n) (l := l) (k := k); rw [← ho] at h_; (simp only [List.length_append, List.length_cons, List.length_nil]; omega)))) rfl ?_
     refine Mx.p rfl (Pu.fieldAddr (off' := voff lv + ((k : Int)).toNat * 7 + 5) Try.runUnderlying45 rfl Try.sizeOf3 rfl rfl rfl) rfl ?_
     refine Mx.q rfl (Qt.ld rfl (Cel.eltM (Src.ro 0 rfl) he5) (o := (voff lv + k * 7)) (off := 5) (by omega) (Cut.one Try.isAgg3 rfl)) rfl ?_
     refine Mx.p rfl (Pu.move rfl) rfl ?_
     refine Mx.p rfl (Pu.move rfl) rfl ?_
     refine Mx.q rfl (Qt.idxM Try.runUnderlying26 Try.sizeOf45 rfl (Src.ro 0 rfl) rfl (by first | omega | (have h_ := Sh.pubS_len (s := s) (n := n) (l := l) (k := k); rw [← ho] at h_; (simp only [List.length_append, List.length_cons, List.length_nil]; omega))) (by first | omega | (have h_ := Sh.pubS_len (s := s) (n := n) (l := l) (k := k); rw [← ho] at h_; (simp only [List.length_append, List.length_cons, List.length_nil]; omega)))) rfl ?_
     refine Mx.p rfl (Pu.fieldAddr (off' := voff lv + ((k : Int)).toNat * 7 + 3) Try.runUnderlying45 rfl Try.sizeOf3 rfl rfl rfl) rfl ?_
     refine Mx.q rfl (Qt.ld rfl (Cel.eltM (Src.ro 0 rfl) he5) (o := (voff lv + k * 7)) (off := 3) (by omega) (Cut.one Try.isAgg3 rfl)) rfl ?_
     refine Mx.p rfl (Pu.move rfl) rfl ?_
     refine Mx.p rfl (Pu.move rfl) rfl ?_
     refine Mx.q rfl (Qt.idxM Try.runUnderlying26 Try.sizeOf45 rfl (Src.ro 0 rfl) rfl (by first | omega | (have h_ := Sh.pubS_len (s := s) (n := n) (l := l) (k := k); rw [← ho] at h_; (simp only [List.length_append, List.length_cons, List.length_nil]; omega))) (by first | omega | (have h_ := Sh.pubS_len (s := s) (n := n) (l := l) (k := k); rw [← ho] at h_; (simp only [List.length_append, List.length_cons, List.length_nil]; omega)))) rfl ?_
     refine Mx.p rfl (Pu.fieldAddr (off' := voff lv + ((k : Int)).toNat * 7 + 1) Try.runUnderlying45 rfl Try.sizeOf3 rfl rfl rfl) rfl ?_
     refine Mx.q rfl (Qt.ld rfl (Cel.eltM (Src.ro 0 rfl) he5) (o := (voff lv + k * 7)) (off := 1) (by omega) (Cut.one Try.isAgg3 rfl)) rfl ?_
     refine Mx.p rfl (Pu.build [(0, .int .i64 s), (1, .int .i64 e5.a), (2, .int .i64 e5.id), (3, .int .i64 e5.tick)] [.int .i64 s, .int .i64 e5.a, .int .i64 e5.id, .int .i64 e5.tick] #[(0, 1), (1, 1), (2, 1), (3, 1)] Try.runUnderlying30 Try.zeroValue30 (places30 Try.underlying30) rfl (by kernel_rfl)) rfl ?_
     refine Mx.l rfl (Lo.buildM (s := 4) Kw.cells [(⟨s, e5.a, e5.id, e5.tick⟩ : Kw)] [(0, .agg #[.int .i64 s, .int .i64 e5.a, .int .i64 e5.id, .int .i64 e5.tick])] (by exact Try.runUnderlying38) (by exact Try.sizeOf30) (by exact Try.zeroValue30) rfl rfl rfl (by kernel_rfl) rfl rfl) rfl ?_
     rintro V15 _ rfl
     refine MxK.go [] [] [] (by decide) rfl (by decide) rfl ?_
     refine Mx.l rfl (Lo.appendM (s := 4) 1 (by exact Try.underlying38) (by exact (info30).1) (by exact (info30).2.1) (by exact (info30).2.2.1) (by exact (info30).2.2.2) rfl rfl rfl rfl rfl (Src.row 0 rfl) Kw.one (by first | omega | (have h_ := Sh.pubS_len (s := s) (n := n) (l := l) (k := k); rw [← ho] at h_; (simp only [List.length_append, List.length_cons, List.length_nil]; omega))) (by first | omega | (have h_ := Sh.pubS_len (s := s) (n := n) (l := l) (k := k); rw [← ho] at h_; (simp only [List.length_append, List.length_cons, List.length_nil]; omega)))) rfl ?_
     rintro V16 _ rfl
     refine MxK.go [] [] [] (by decide) rfl (by decide) rfl ?_
     refine Mx.p rfl (Pu.assign rfl) rfl ?_
     refine Mx.nil ?_
     refine J.blk ?_
     refine J.region ?_
     refine O.p (Pu.move rfl) rfl ?_
     refine O.p (Pu.add' rfl rfl (by first | omega | (simp only [List.length_append, List.length_cons, List.length_nil, List.length_set]; omega))) rfl ?_
     refine O.p (Pu.assign rfl) rfl ?_
     refine O.nil ?_
     exact J.lp ⟨k + 1, V16, o ++ ([(⟨s, e5.a, e5.id, e5.tick⟩ : Kw)])⟩ (show (k + 1) ≤ (l).length ∧ (o ++ ([(⟨s, e5.a, e5.id, e5.tick⟩ : Kw)])) = Sh.pubS s n l (k + 1) from ⟨by omega, (by rw [ho]; exact (Sh.pubS_yes he5 (by omega) (by omega)).symm)⟩) (show (l).length - (k + 1) < (l).length - k from (by first | omega | (have h_ := Sh.pubS_len (s := s) (n := n) (l := l) (k := k); rw [← ho] at h_; (simp only [List.length_append, List.length_cons, List.length_nil]; omega)))) ⟨rfl, rfl, rfl, rfl, (congrArg (fun z => some (Value.int .i64 z)) (by first | rfl | omega : ((k : Int) + 1 : Int) = ((k + 1) : Int))), trivial⟩ [1] (by decide) rfl
    ·
     have p17 := of_decide_eq_false h13
     refine J.skip ?_
     refine J.blk ?_
     refine J.region ?_
     refine O.p (Pu.move rfl) rfl ?_
     refine O.p (Pu.add' rfl rfl (by first | omega | (simp only [List.length_append, List.length_cons, List.length_nil, List.length_set]; omega))) rfl ?_
     refine O.p (Pu.assign rfl) rfl ?_
     refine O.nil ?_
     exact J.lp ⟨k + 1, V, o⟩ (show (k + 1) ≤ (l).length ∧ o = Sh.pubS s n l (k + 1) from ⟨by omega, (by rw [ho]; exact (Sh.pubS_no he5 (by omega)).symm)⟩) (show (l).length - (k + 1) < (l).length - k from (by first | omega | (have h_ := Sh.pubS_len (s := s) (n := n) (l := l) (k := k); rw [← ho] at h_; (simp only [List.length_append, List.length_cons, List.length_nil]; omega)))) ⟨rfl, rfl, rfl, rfl, (congrArg (fun z => some (Value.int .i64 z)) (by first | rfl | omega : ((k : Int) + 1 : Int) = ((k + 1) : Int))), trivial⟩ [0] (by decide) rfl
  ·
   have p18 := of_decide_eq_false h6
   refine O.gskip (t := 26) rfl rfl (no_bool (by rw [h6]; decide)) rfl rfl ?_
   refine O.gskip (t := 26) rfl rfl (no_bool (by rw [h6]; decide)) rfl rfl ?_
   refine O.gskip (t := 26) rfl rfl (no_bool (by rw [h6]; decide)) rfl rfl ?_
   refine O.gskip (t := 26) rfl rfl (no_bool (by rw [h6]; decide)) rfl rfl ?_
   refine O.gskip (t := 26) rfl rfl (no_bool (by rw [h6]; decide)) rfl rfl ?_
   refine O.gskip (t := 26) rfl rfl (no_bool (by rw [h6]; decide)) rfl rfl ?_
   refine O.gskip (t := 26) rfl rfl (no_bool (by rw [h6]; decide)) rfl rfl ?_
   refine O.gskip (t := 33) rfl rfl (no_undef _) rfl rfl ?_
   refine O.gskip (t := 33) rfl rfl (no_undef _) rfl rfl ?_
   refine O.gskip (t := 33) rfl rfl (no_undef _) rfl rfl ?_
   refine O.gskip (t := 33) rfl rfl (no_undef _) rfl rfl ?_
   refine O.gskip (t := 33) rfl rfl (no_undef _) rfl rfl ?_
   refine O.gskip (t := 33) rfl rfl (no_undef _) rfl rfl ?_
   refine O.gskip (t := 26) rfl rfl (no_bool (by rw [h6]; decide)) rfl rfl ?_
   refine O.p (Pu.pickF rfl h6 rfl) rfl ?_
   refine O.nil ?_
   refine J.condF rfl rfl ?_
   refine J.skip ?_
   refine J.blk ?_
   refine J.region ?_
   refine O.p (Pu.move rfl) rfl ?_
   refine O.p (Pu.add' rfl rfl (by first | omega | (simp only [List.length_append, List.length_cons, List.length_nil, List.length_set]; omega))) rfl ?_
   refine O.p (Pu.assign rfl) rfl ?_
   refine O.nil ?_
   exact J.lp ⟨k + 1, V, o⟩ (show (k + 1) ≤ (l).length ∧ o = Sh.pubS s n l (k + 1) from ⟨by omega, (by rw [ho]; exact (Sh.pubS_no he5 (by omega)).symm)⟩) (show (l).length - (k + 1) < (l).length - k from (by first | omega | (have h_ := Sh.pubS_len (s := s) (n := n) (l := l) (k := k); rw [← ho] at h_; (simp only [List.length_append, List.length_cons, List.length_nil]; omega)))) ⟨rfl, rfl, rfl, rfl, (congrArg (fun z => some (Value.int .i64 z)) (by first | rfl | omega : ((k : Int) + 1 : Int) = ((k + 1) : Int))), trivial⟩ [0] (by decide) rfl
 ·
  have p19 := of_decide_eq_false h3
  refine J.exit _ rfl ?_
  refine J.seq ?_
  refine J.region ?_
  refine O.p (Pu.move rfl) rfl ?_
  refine O.p (Pu.assign rfl) rfl ?_
  refine O.nil ?_
  exact J.ret (Fin.ret (rs := [.tmp 6]) rfl [_] ⟨rfl, trivial⟩ [0] (by decide) [row V 30 4 (o.map Kw.cells)] rfl (congrArg (fun (z_ : List Kw) => ([row V 30 4 (z_.map Kw.cells)] : List Sp)) (show o = Sh.pub s n l from (by rw [ho]; exact Sh.pubS_all (by omega)))))

set_option maxRecDepth 100000 in
theorem sd_Cuts (s : Int) (lv : Value) (l : List Ev) (hl : l.length ≤ 1000) : Tri Try.prog 12 #[.int .i64 s, lv] [rd lv 7 (l.map Ev.cells)] [] (fun v L' => v = .int .i64 (Sh.cuts s l : Int) ∧ L' = []) := by
 refine Tri.enter (args := [.int .i64 s, lv]) (body := _) 22 Try.func12 rfl Try.ntmps12 rfl ?_
 intro w0
 refine J.seq ?_
 refine J.region ?_
 refine O.p (Pu.assign rfl) rfl ?_
 refine O.nil ?_
 refine J.seq ?_
 refine J.region ?_
 refine O.p (Pu.assign rfl) rfl ?_
 refine O.nil ?_
 refine J.seq ?_
 refine J.seq ?_
 refine J.region ?_
 refine O.p (Pu.move rfl) rfl ?_
 refine O.p (Pu.move rfl) rfl ?_
 refine O.l (Lo.call [.int .i64 s, lv] (by exact Try.call17) rfl (trace_of s lv l (by omega)) [] [] (by decide) rfl [] rfl (RoOk.ro 0 rfl [] rfl RoOk.nil)) rfl ?_
 rintro v1 _ ⟨_, rfl, rfl⟩
 refine O.q (Qt.lenM Try.runUnderlying26 rfl (Src.row 0 rfl)) rfl ?_
 refine O.p (Pu.move rfl) rfl ?_
 refine O.nil ?_
 refine J.block ?_
 refine J.loop (X := Nat × Int) (fun ξ => ξ.1 ≤ (Mono.of s l).length ∧ ξ.2 = (Sh.cutsK (Mono.of s l) ξ.1 : Int)) (fun ξ => [(4, .int .i64 0), (5, .int .i64 ξ.2), (10, v1), (11, .int .i64 ((Mono.of s l).length : Int)), (12, .int .i64 (ξ.1 : Int))]) (fun ξ => [row v1 45 7 ((Mono.of s l).map Ev.cells)]) (fun ξ => (Mono.of s l).length - ξ.1) ⟨0, 0⟩ (show 0 ≤ (Mono.of s l).length ∧ 0 = (Sh.cutsK (Mono.of s l) 0 : Int) from ⟨by omega, rfl⟩) ⟨rfl, rfl, rfl, rfl, (congrArg (fun z => some (Value.int .i64 z)) (by first | rfl | omega : (0 : Int) = (0 : Int))), trivial⟩ [0] (by decide) rfl ?_
 rintro ⟨k, n⟩ hq2
 obtain ⟨hk, hn⟩ : k ≤ (Mono.of s l).length ∧ n = (Sh.cutsK (Mono.of s l) k : Int) := hq2
 show J _ _ [(4, .int .i64 0), (5, .int .i64 n), (10, v1), (11, .int .i64 ((Mono.of s l).length : Int)), (12, .int .i64 (k : Int))] [row v1 45 7 ((Mono.of s l).map Ev.cells)]
 refine J.seq ?_
 refine J.region ?_
 refine O.p (Pu.lss rfl rfl) rfl ?_
 refine O.nil ?_
 refine J.seq ?_
 refine J.cond rfl (fun h3 => ?_) (fun h3 => ?_)
 ·
  have p4 := of_decide_eq_true h3
  refine J.skip ?_
  refine J.seq ?_
  refine J.block ?_
  refine J.seq ?_
  refine J.region ?_
  obtain ⟨e5, he5⟩ : ∃ x_, (Mono.of s l)[k]? = some x_ := ⟨_, List.getElem?_eq_getElem (by first | omega | (have h_ := Mono.of_len s l; omega))⟩
  refine O.q (Qt.idxM Try.runUnderlying26 Try.sizeOf45 rfl (Src.row 0 rfl) rfl (by first | omega | (have h_ := Mono.of_len s l; omega)) (by first | omega | (have h_ := Mono.of_len s l; omega))) rfl ?_
  refine O.q (Qt.ld rfl (Cel.eltM (Src.row 0 rfl) he5) (o := (voff v1 + k * 7)) (off := 0) (by omega) (Cut.agg [.int .i64 e5.kind, .int .i64 e5.tick, .int .i64 e5.s, .int .i64 e5.id, .int .i64 e5.code, .int .i64 e5.a, .int .i64 e5.b] Try.isAgg45 Try.sizeOf45 rfl rfl)) rfl ?_
  refine O.l (Lo.alloc [.int .i64 0, .int .i64 0, .int .i64 0, .int .i64 0, .int .i64 0, .int .i64 0, .int .i64 0] (by exact Try.zeroValue45) rfl) rfl ?_
  rintro _ _ ⟨g6, rfl, rfl⟩
  refine O.l0 (Lo.store 0 (vs := [.int .i64 e5.kind, .int .i64 e5.tick, .int .i64 e5.s, .int .i64 e5.id, .int .i64 e5.code, .int .i64 e5.a, .int .i64 e5.b]) [.int .i64 e5.kind, .int .i64 e5.tick, .int .i64 e5.s, .int .i64 e5.id, .int .i64 e5.code, .int .i64 e5.a, .int .i64 e5.b] rfl rfl rfl (by exact Try.sizeOf45) rfl rfl rfl rfl rfl) ?_
  rintro _ _ rfl
  refine O.nil ?_
  refine J.seq ?_
  refine J.region ?_
  refine O.q (Qt.ld rfl (Cel.var 0 rfl) (o := 0) (off := 0) rfl (Cut.agg [.int .i64 e5.kind, .int .i64 e5.tick, .int .i64 e5.s, .int .i64 e5.id, .int .i64 e5.code, .int .i64 e5.a, .int .i64 e5.b] Try.isAgg45 Try.sizeOf45 rfl rfl)) rfl ?_
  refine O.l (Lo.call [.agg #[.int .i64 e5.kind, .int .i64 e5.tick, .int .i64 e5.s, .int .i64 e5.id, .int .i64 e5.code, .int .i64 e5.a, .int .i64 e5.b]] (by exact Try.call23) rfl (sd_cut e5) [] [0, 1] (by decide) rfl [var g6 [.int .i64 e5.kind, .int .i64 e5.tick, .int .i64 e5.s, .int .i64 e5.id, .int .i64 e5.code, .int .i64 e5.a, .int .i64 e5.b] 45, row v1 45 7 ((Mono.of s l).map Ev.cells)] rfl RoOk.nil) rfl ?_
  rintro _ _ ⟨_, ⟨rfl, rfl⟩, rfl⟩
  refine O.nil ?_
  refine J.cond rfl (fun h8 => ?_) (fun h8 => ?_)
  ·
   refine J.region ?_
   refine O.p (Pu.move rfl) rfl ?_
   refine O.p (Pu.add' rfl rfl (by first | omega | (have h_ := Sh.cutsK_le (f := Mono.of s l) (k := k); have h2_ := Mono.of_len s l; omega))) rfl ?_
   refine O.p (Pu.assign rfl) rfl ?_
   refine O.nil ?_
   refine J.blk ?_
   refine J.region ?_
   refine O.p (Pu.add' rfl rfl (by first | omega | (have h_ := Sh.cutsK_le (f := Mono.of s l) (k := k); have h2_ := Mono.of_len s l; omega))) rfl ?_
   refine O.p (Pu.move rfl) rfl ?_
   refine O.nil ?_
   exact J.lp ⟨k + 1, n + 1⟩ (show (k + 1) ≤ (Mono.of s l).length ∧ (n + 1) = (Sh.cutsK (Mono.of s l) (k + 1) : Int) from ⟨by omega, (by rw [hn, Sh.cutsK_c he5 ‹_›]; omega)⟩) (show (Mono.of s l).length - (k + 1) < (Mono.of s l).length - k from (by first | omega | (have h_ := Mono.of_len s l; omega))) ⟨rfl, rfl, rfl, rfl, (congrArg (fun z => some (Value.int .i64 z)) (by first | rfl | omega : ((k : Int) + 1 : Int) = ((k + 1) : Int))), trivial⟩ [1] (by decide) rfl
  ·
   refine J.skip ?_
   refine J.blk ?_
   refine J.region ?_
   refine O.p (Pu.add' rfl rfl (by first | omega | (have h_ := Sh.cutsK_le (f := Mono.of s l) (k := k); have h2_ := Mono.of_len s l; omega))) rfl ?_
   refine O.p (Pu.move rfl) rfl ?_
   refine O.nil ?_
   exact J.lp ⟨k + 1, n⟩ (show (k + 1) ≤ (Mono.of s l).length ∧ n = (Sh.cutsK (Mono.of s l) (k + 1) : Int) from ⟨by omega, (by rw [hn, Sh.cutsK_nc he5 ‹_›])⟩) (show (Mono.of s l).length - (k + 1) < (Mono.of s l).length - k from (by first | omega | (have h_ := Mono.of_len s l; omega))) ⟨rfl, rfl, rfl, rfl, (congrArg (fun z => some (Value.int .i64 z)) (by first | rfl | omega : ((k : Int) + 1 : Int) = ((k + 1) : Int))), trivial⟩ [1] (by decide) rfl
 ·
  have p9 := of_decide_eq_false h3
  refine J.exit _ rfl ?_
  refine J.seq ?_
  refine J.region ?_
  refine O.p (Pu.move rfl) rfl ?_
  refine O.p (Pu.assign rfl) rfl ?_
  refine O.nil ?_
  exact J.ret (Fin.ret (rs := [.tmp 4]) rfl [_] ⟨rfl, trivial⟩ [] (by decide) [] rfl ⟨(by rw [hn, Sh.cutsK_all (by omega)]; rfl), rfl⟩)

set_option maxRecDepth 100000 in
theorem r43_Cuts (s : Int) (lv : Value) (l : List Ev) (hl : l.length ≤ 1000) : Tri Try.prog 13 #[.int .i64 s, lv] [rd lv 7 (l.map Ev.cells)] [] (fun v L' => v = .int .i64 (Sh.cuts s l : Int) ∧ L' = []) := by
 refine Tri.enter (args := [.int .i64 s, lv]) (body := _) 39 Try.func13 rfl Try.ntmps13 rfl ?_
 intro w0
 refine J.seq ?_
 refine J.region ?_
 refine O.p (Pu.assign rfl) rfl ?_
 refine O.nil ?_
 refine J.seq ?_
 refine J.region ?_
 refine O.p (Pu.assign rfl) rfl ?_
 refine O.nil ?_
 refine J.seq ?_
 refine J.seq ?_
 refine J.region ?_
 refine O.p (Pu.assign rfl) rfl ?_
 refine O.nil ?_
 refine J.block ?_
 refine J.loop (X := Nat × Int) (fun ξ => ξ.1 ≤ (l).length ∧ ξ.2 = (Sh.cutsS s l ξ.1 : Int)) (fun ξ => [(0, .int .i64 s), (1, lv), (4, .int .i64 0), (5, .int .i64 ξ.2), (6, .int .i64 (ξ.1 : Int))]) (fun ξ => []) (fun ξ => (l).length - ξ.1) ⟨0, 0⟩ (show 0 ≤ (l).length ∧ 0 = (Sh.cutsS s l 0 : Int) from ⟨by omega, rfl⟩) ⟨rfl, rfl, rfl, rfl, (congrArg (fun z => some (Value.int .i64 z)) (by first | rfl | omega : (0 : Int) = (0 : Int))), trivial⟩ [] (by decide) rfl ?_
 rintro ⟨k, n⟩ hq1
 obtain ⟨hk, hn⟩ : k ≤ (l).length ∧ n = (Sh.cutsS s l k : Int) := hq1
 show J _ _ [(0, .int .i64 s), (1, lv), (4, .int .i64 0), (5, .int .i64 n), (6, .int .i64 (k : Int))] []
 refine J.seq ?_
 refine J.seq ?_
 refine J.region ?_
 refine O.p (Pu.move rfl) rfl ?_
 refine O.p (Pu.move rfl) rfl ?_
 refine O.q (Qt.lenM Try.runUnderlying26 rfl (Src.ro 0 rfl)) rfl ?_
 refine O.p (Pu.lss rfl rfl) rfl ?_
 refine O.nil ?_
 refine J.cond rfl (fun h2 => ?_) (fun h2 => ?_)
 ·
  have p3 := of_decide_eq_true h2
  refine J.skip ?_
  refine J.seq ?_
  refine J.block ?_
  refine J.seq ?_
  refine J.region ?_
  refine O.p (Pu.move rfl) rfl ?_
  refine O.p (Pu.move rfl) rfl ?_
  obtain ⟨e4, he4⟩ : ∃ x_, l[k]? = some x_ := ⟨_, List.getElem?_eq_getElem (by omega)⟩
  refine O.q (Qt.idxM Try.runUnderlying26 Try.sizeOf45 rfl (Src.ro 0 rfl) rfl (by omega) (by omega)) rfl ?_
  refine O.p (Pu.fieldAddr (off' := voff lv + ((k : Int)).toNat * 7 + 2) Try.runUnderlying45 rfl Try.sizeOf3 rfl rfl rfl) rfl ?_
  refine O.q (Qt.ld rfl (Cel.eltM (Src.ro 0 rfl) he4) (o := (voff lv + k * 7)) (off := 2) (by omega) (Cut.one Try.isAgg3 rfl)) rfl ?_
  refine O.p (Pu.move rfl) rfl ?_
  refine O.p (Pu.eql rfl rfl) rfl ?_
  refine O.p (Pu.move rfl) rfl ?_
  refine by_bool (decide (e4.s = s)) (fun h5 => ?_) (fun h5 => ?_)
  ·
   have p6 := of_decide_eq_true h5
   refine O.gq (t := 20) rfl rfl h5 rfl (Pu.qt (Pu.move rfl)) rfl ?_
   refine O.gq (t := 20) rfl rfl h5 rfl (Pu.qt (Pu.move rfl)) rfl ?_
   refine O.gq (t := 20) rfl rfl h5 rfl (Qt.idxM Try.runUnderlying26 Try.sizeOf45 rfl (Src.ro 0 rfl) rfl (by omega) (by omega)) rfl ?_
   refine O.gq (t := 20) rfl rfl h5 rfl (Pu.qt (Pu.fieldAddr (off' := voff lv + ((k : Int)).toNat * 7 + 0) Try.runUnderlying45 rfl Try.sizeOf3 rfl rfl rfl)) rfl ?_
   refine O.gq (t := 20) rfl rfl h5 rfl (Qt.ld rfl (Cel.eltM (Src.ro 0 rfl) he4) (o := (voff lv + k * 7)) (off := 0) (by omega) (Cut.one Try.isAgg3 rfl)) rfl ?_
   refine O.gq (t := 20) rfl rfl h5 rfl (Pu.qt (Pu.eql rfl rfl)) rfl ?_
   refine O.p (Pu.pickT rfl h5 rfl) rfl ?_
   refine O.p (Pu.move rfl) rfl ?_
   refine by_bool (decide (e4.kind = 6)) (fun h7 => ?_) (fun h7 => ?_)
   ·
    have p8 := of_decide_eq_true h7
    refine O.gq (t := 28) rfl rfl h7 rfl (Pu.qt (Pu.move rfl)) rfl ?_
    refine O.gq (t := 28) rfl rfl h7 rfl (Pu.qt (Pu.move rfl)) rfl ?_
    refine O.gq (t := 28) rfl rfl h7 rfl (Qt.idxM Try.runUnderlying26 Try.sizeOf45 rfl (Src.ro 0 rfl) rfl (by omega) (by omega)) rfl ?_
    refine O.gq (t := 28) rfl rfl h7 rfl (Pu.qt (Pu.fieldAddr (off' := voff lv + ((k : Int)).toNat * 7 + 4) Try.runUnderlying45 rfl Try.sizeOf3 rfl rfl rfl)) rfl ?_
    refine O.gq (t := 28) rfl rfl h7 rfl (Qt.ld rfl (Cel.eltM (Src.ro 0 rfl) he4) (o := (voff lv + k * 7)) (off := 4) (by omega) (Cut.one Try.isAgg3 rfl)) rfl ?_
    refine O.gq (t := 28) rfl rfl h7 rfl (Pu.qt (Pu.eql rfl rfl)) rfl ?_
    refine O.p (Pu.pickT rfl h7 rfl) rfl ?_
    refine O.nil ?_
    refine J.cond rfl (fun h9 => ?_) (fun h9 => ?_)
    ·
     have p10 := of_decide_eq_true h9
     refine J.region ?_
     refine O.p (Pu.move rfl) rfl ?_
     refine O.p (Pu.add' rfl rfl (by first | omega | (have h_ := Sh.cutsS_le (s := s) (l := l) (k := k); omega))) rfl ?_
     refine O.p (Pu.assign rfl) rfl ?_
     refine O.nil ?_
     refine J.blk ?_
     refine J.region ?_
     refine O.p (Pu.move rfl) rfl ?_
     refine O.p (Pu.add' rfl rfl (by first | omega | (have h_ := Sh.cutsS_le (s := s) (l := l) (k := k); omega))) rfl ?_
     refine O.p (Pu.assign rfl) rfl ?_
     refine O.nil ?_
     exact J.lp ⟨k + 1, n + 1⟩ (show (k + 1) ≤ (l).length ∧ (n + 1) = (Sh.cutsS s l (k + 1) : Int) from ⟨by omega, (by rw [hn, Sh.cutsS_yes he4 (by omega) (by omega) (by omega)]; omega)⟩) (show (l).length - (k + 1) < (l).length - k from (by omega)) ⟨rfl, rfl, rfl, rfl, (congrArg (fun z => some (Value.int .i64 z)) (by first | rfl | omega : ((k : Int) + 1 : Int) = ((k + 1) : Int))), trivial⟩ [] (by decide) rfl
    ·
     have p11 := of_decide_eq_false h9
     refine J.skip ?_
     refine J.blk ?_
     refine J.region ?_
     refine O.p (Pu.move rfl) rfl ?_
     refine O.p (Pu.add' rfl rfl (by first | omega | (have h_ := Sh.cutsS_le (s := s) (l := l) (k := k); omega))) rfl ?_
     refine O.p (Pu.assign rfl) rfl ?_
     refine O.nil ?_
     exact J.lp ⟨k + 1, n⟩ (show (k + 1) ≤ (l).length ∧ n = (Sh.cutsS s l (k + 1) : Int) from ⟨by omega, (by rw [hn, Sh.cutsS_no he4 (by omega)])⟩) (show (l).length - (k + 1) < (l).length - k from (by omega)) ⟨rfl, rfl, rfl, rfl, (congrArg (fun z => some (Value.int .i64 z)) (by first | rfl | omega : ((k : Int) + 1 : Int) = ((k + 1) : Int))), trivial⟩ [] (by decide) rfl
   ·
    have p12 := of_decide_eq_false h7
    refine O.gskip (t := 28) rfl rfl (no_bool (by rw [h7]; decide)) rfl rfl ?_
    refine O.gskip (t := 28) rfl rfl (no_bool (by rw [h7]; decide)) rfl rfl ?_
    refine O.gskip (t := 28) rfl rfl (no_bool (by rw [h7]; decide)) rfl rfl ?_
    refine O.gskip (t := 28) rfl rfl (no_bool (by rw [h7]; decide)) rfl rfl ?_
    refine O.gskip (t := 28) rfl rfl (no_bool (by rw [h7]; decide)) rfl rfl ?_
    refine O.gskip (t := 28) rfl rfl (no_bool (by rw [h7]; decide)) rfl rfl ?_
    refine O.p (Pu.pickF rfl h7 rfl) rfl ?_
    refine O.nil ?_
    refine J.condF rfl rfl ?_
    refine J.skip ?_
    refine J.blk ?_
    refine J.region ?_
    refine O.p (Pu.move rfl) rfl ?_
    refine O.p (Pu.add' rfl rfl (by first | omega | (have h_ := Sh.cutsS_le (s := s) (l := l) (k := k); omega))) rfl ?_
    refine O.p (Pu.assign rfl) rfl ?_
    refine O.nil ?_
    exact J.lp ⟨k + 1, n⟩ (show (k + 1) ≤ (l).length ∧ n = (Sh.cutsS s l (k + 1) : Int) from ⟨by omega, (by rw [hn, Sh.cutsS_no he4 (by omega)])⟩) (show (l).length - (k + 1) < (l).length - k from (by omega)) ⟨rfl, rfl, rfl, rfl, (congrArg (fun z => some (Value.int .i64 z)) (by first | rfl | omega : ((k : Int) + 1 : Int) = ((k + 1) : Int))), trivial⟩ [] (by decide) rfl
  ·
   have p13 := of_decide_eq_false h5
   refine O.gskip (t := 20) rfl rfl (no_bool (by rw [h5]; decide)) rfl rfl ?_
   refine O.gskip (t := 20) rfl rfl (no_bool (by rw [h5]; decide)) rfl rfl ?_
   refine O.gskip (t := 20) rfl rfl (no_bool (by rw [h5]; decide)) rfl rfl ?_
   refine O.gskip (t := 20) rfl rfl (no_bool (by rw [h5]; decide)) rfl rfl ?_
   refine O.gskip (t := 20) rfl rfl (no_bool (by rw [h5]; decide)) rfl rfl ?_
   refine O.gskip (t := 20) rfl rfl (no_bool (by rw [h5]; decide)) rfl rfl ?_
   refine O.p (Pu.pickF rfl h5 rfl) rfl ?_
   refine O.p (Pu.move rfl) rfl ?_
   refine O.gskip (t := 28) rfl rfl (no_bool (by decide)) rfl rfl ?_
   refine O.gskip (t := 28) rfl rfl (no_bool (by decide)) rfl rfl ?_
   refine O.gskip (t := 28) rfl rfl (no_bool (by decide)) rfl rfl ?_
   refine O.gskip (t := 28) rfl rfl (no_bool (by decide)) rfl rfl ?_
   refine O.gskip (t := 28) rfl rfl (no_bool (by decide)) rfl rfl ?_
   refine O.gskip (t := 28) rfl rfl (no_bool (by decide)) rfl rfl ?_
   refine O.p (Pu.pickF rfl rfl rfl) rfl ?_
   refine O.nil ?_
   refine J.condF rfl rfl ?_
   refine J.skip ?_
   refine J.blk ?_
   refine J.region ?_
   refine O.p (Pu.move rfl) rfl ?_
   refine O.p (Pu.add' rfl rfl (by first | omega | (have h_ := Sh.cutsS_le (s := s) (l := l) (k := k); omega))) rfl ?_
   refine O.p (Pu.assign rfl) rfl ?_
   refine O.nil ?_
   exact J.lp ⟨k + 1, n⟩ (show (k + 1) ≤ (l).length ∧ n = (Sh.cutsS s l (k + 1) : Int) from ⟨by omega, (by rw [hn, Sh.cutsS_no he4 (by omega)])⟩) (show (l).length - (k + 1) < (l).length - k from (by omega)) ⟨rfl, rfl, rfl, rfl, (congrArg (fun z => some (Value.int .i64 z)) (by first | rfl | omega : ((k : Int) + 1 : Int) = ((k + 1) : Int))), trivial⟩ [] (by decide) rfl
 ·
  have p14 := of_decide_eq_false h2
  refine J.exit _ rfl ?_
  refine J.seq ?_
  refine J.region ?_
  refine O.p (Pu.move rfl) rfl ?_
  refine O.p (Pu.assign rfl) rfl ?_
  refine O.nil ?_
  exact J.ret (Fin.ret (rs := [.tmp 4]) rfl [_] ⟨rfl, trivial⟩ [] (by decide) [] rfl ⟨(by rw [hn, Sh.cutsS_all (by omega)]; rfl), rfl⟩)

set_option maxRecDepth 100000 in
theorem bw_43 (gv : Nat) (lv : Value) (l : List Ev) (hl : l.length ≤ 1000000000000) : ItC Try.prog 43 #[.pointer (some ⟨gv, 0, none⟩)] [var gv [lv] 26, rd lv 7 (l.map Ev.cells)] (bwXs (fun x : Ev => .agg #[.int .i64 x.kind, .int .i64 x.tick, .int .i64 x.s, .int .i64 x.id, .int .i64 x.code, .int .i64 x.a, .int .i64 x.b]) l) := by
  refine ItC.enter (lb := [.pointer (some ⟨gv, 0, none⟩)]) (body := _) 19 Try.func43 rfl Try.ntmps43 rfl (by rfl) ?_
  intro y m J Jx R0 W hmem hy h0 hR
  refine JE.seq ?_
  refine JE.region ?_
  refine OE.q (fun A hA => ⟨hmem _ _ h0 A hA, fun k _ hk => by cases hk⟩) (Qt.ld rfl (Cel.roVar 0 rfl) (o := 0) (off := 0) rfl (Cut.one Try.isAgg26 rfl)) rfl ?_
  refine OE.q (fun A hA => ⟨hmem _ _ h0 A hA, fun k _ hk => by cases hk⟩) (Qt.lenM Try.runUnderlying26 rfl (Src.ro 1 rfl)) rfl ?_
  refine OE.p (Pu.sub' rfl rfl (by omega)) rfl ?_
  refine OE.p (Pu.assign rfl) rfl ?_
  refine OE.nil ?_
  refine JE.block ?_
  refine JE.loop (X := Nat) (fun k W => k ≤ l.length ∧ J k W) (fun k => [(0, .func (.yield y) #[] #[]), (1, .pointer (some ⟨gv, 0, none⟩)), (3, .int .i64 ((l.length : Int) - 1 - k))]) (fun k => l.length - k) 0 ⟨Nat.zero_le _, h0⟩ ⟨rfl, rfl, congrArg (fun z => some (Value.int .i64 z)) (by omega), trivial⟩ ?_
  rintro k W1 ⟨hk, hj⟩
  show JE _ _ _ [(0, .func (.yield y) #[] #[]), (1, .pointer (some ⟨gv, 0, none⟩)), (3, .int .i64 ((l.length : Int) - 1 - k))] _
  refine JE.seq ?_
  refine JE.seq ?_
  refine JE.region ?_
  refine OE.p (Pu.move rfl) rfl ?_
  refine OE.p (Pu.geq rfl rfl) rfl ?_
  refine OE.nil ?_
  refine JE.cond rfl (fun h => ?_) (fun h => ?_)
  ·
    have p := of_decide_eq_true h
    refine JE.skip ?_
    refine JE.seq ?_
    refine JE.block ?_
    refine JE.seq ?_
    refine JE.region ?_
    refine OE.p (Pu.move rfl) rfl ?_
    refine OE.p (Pu.move rfl) rfl ?_
    refine OE.q (fun A hA => ⟨hmem _ _ hj A hA, fun k _ hk => by cases hk⟩) (Qt.ld rfl (Cel.roVar 0 rfl) (o := 0) (off := 0) rfl (Cut.one Try.isAgg26 rfl)) rfl ?_
    refine OE.p (Pu.move rfl) rfl ?_
    obtain ⟨e, he⟩ : ∃ x_, l[(((l.length : Int) - 1 - k)).toNat]? = some x_ := ⟨_, List.getElem?_eq_getElem (by omega)⟩
    refine OE.q (fun A hA => ⟨hmem _ _ hj A hA, fun k _ hk => by cases hk⟩) (Qt.idxM Try.runUnderlying26 Try.sizeOf45 rfl (Src.ro 1 rfl) rfl (by omega) (by omega)) rfl ?_
    refine OE.q (fun A hA => ⟨hmem _ _ hj A hA, fun k _ hk => by cases hk⟩) (Qt.ld rfl (Cel.eltM (Src.ro 1 rfl) he) (o := (voff lv + (((l.length : Int) - 1 - k)).toNat * 7)) (off := 0) (by omega) (Cut.agg [.int .i64 e.kind, .int .i64 e.tick, .int .i64 e.s, .int .i64 e.id, .int .i64 e.code, .int .i64 e.a, .int .i64 e.b] Try.isAgg45 Try.sizeOf45 rfl rfl)) rfl ?_
    have hx : (bwXs (fun x : Ev => .agg #[.int .i64 x.kind, .int .i64 x.tick, .int .i64 x.s, .int .i64 x.id, .int .i64 x.code, .int .i64 x.a, .int .i64 x.b]) l)[k]? = some [.int .i64 ((l.length : Int) - 1 - k), .agg #[.int .i64 e.kind, .int .i64 e.tick, .int .i64 e.s, .int .i64 e.id, .int .i64 e.code, .int .i64 e.a, .int .i64 e.b]] := bwXs_at (f := fun x : Ev => .agg #[.int .i64 x.kind, .int .i64 x.tick, .int .i64 x.s, .int .i64 x.id, .int .i64 x.code, .int .i64 x.a, .int .i64 x.b]) (by omega) (by rw [← he]; congr 1; omega)
    refine OE.yield (K := fun b W' => match b with | true => J (k + 1) W' | false => Jx W') (vs := [.int .i64 ((l.length : Int) - 1 - k), .agg #[.int .i64 e.kind, .int .i64 e.tick, .int .i64 e.s, .int .i64 e.id, .int .i64 e.code, .int .i64 e.a, .int .i64 e.b]]) rfl rfl rfl rfl (hy k _ _ hj hx) rfl ?_
    rintro b W2 hK
    cases b
    ·
      refine OE.p (Pu.not rfl) rfl ?_
      refine OE.nil ?_
      refine JE.condT rfl rfl ?_
      exact JE.ret (fun a ha => hR _ _ _ (.inr rfl) ha.defers (.inr hK))
    ·
      refine OE.p (Pu.not rfl) rfl ?_
      refine OE.nil ?_
      refine JE.condF rfl rfl ?_
      refine JE.skip ?_
      refine JE.blk ?_
      refine JE.region ?_
      refine OE.p (Pu.move rfl) rfl ?_
      refine OE.p (Pu.sub' rfl rfl (by omega)) rfl ?_
      refine OE.p (Pu.assign rfl) rfl ?_
      refine OE.nil ?_
      exact JE.again (k + 1) ⟨by omega, hK⟩ (show l.length - (k + 1) < l.length - k from (by omega)) ⟨rfl, rfl, congrArg (fun z => some (Value.int .i64 z)) (by omega), trivial⟩
  ·
    have p := of_decide_eq_false h
    refine JE.exit _ rfl ?_
    refine JE.done (fun a ha => hR _ _ _ (.inl rfl) ha.defers (.inl ?_))
    rw [bwXs_length, show l.length = k from (by omega)]
    exact hj

set_option maxRecDepth 100000 in
theorem ev_back (lv : Value) (l : List Ev) : Tri Try.prog 41 #[lv] [rd lv 7 (l.map Ev.cells)] [] (fun v L' => ∃ g, v = .func (.func 43) #[] #[.pointer (some ⟨g, 0, none⟩)] ∧ L' = [var g [lv] 26]) := by
 refine Tri.enter (args := [lv]) (body := _) 4 Try.func41 rfl Try.ntmps41 rfl ?_
 intro w0
 refine J.seq ?_
 refine J.region ?_
 refine O.one (Src.ro 0 rfl) (fun hV2 => ?_)
 refine O.l (Lo.box [lv] rfl (one_cells hV2)) rfl ?_
 rintro _ _ ⟨g1, rfl, rfl⟩
 refine O.p (Pu.assign rfl) rfl ?_
 refine O.nil ?_
 refine J.seq ?_
 refine J.region ?_
 refine O.p (Pu.makeFunc [.pointer (some ⟨g1, 0, none⟩)] rfl) rfl ?_
 refine O.p (Pu.assign rfl) rfl ?_
 refine O.nil ?_
 exact J.ret (Fin.ret (rs := [.tmp 2]) rfl [_] ⟨rfl, trivial⟩ [0] (by decide) [var g1 [lv] 26] rfl ⟨g1, rfl, rfl⟩)

set_option maxRecDepth 100000 in
theorem sd_asked (s id : Int) (lv : Value) (l : List Ev) (hl : l.length ≤ 1000) : Tri Try.prog 34 #[.int .i64 s, .int .i64 id, lv] [rd lv 7 (l.map Ev.cells)] [] (fun v L' => v = .tuple #[.int .i64 (Sh.ask s id l).1, .bool (Sh.ask s id l).2] ∧ L' = []) := by
  refine Tri.enterI (args := [.int .i64 s, .int .i64 id, lv]) (body := _) 31 Try.func34 rfl Try.ntmps34 rfl ?_
  intro w0
  refine JI.seq ?_
  refine JI.regionUp rfl ?_
  refine O.l (Lo.box [.int .i64 s] rfl rfl) rfl ?_
  rintro _ _ ⟨g1, rfl, rfl⟩
  refine O.l (Lo.box [.int .i64 id] rfl rfl) rfl ?_
  rintro _ _ ⟨g2, rfl, rfl⟩
  refine O.l (Lo.alloc [.int .i64 0] (by exact Try.zeroValue3) rfl) rfl ?_
  rintro _ _ ⟨g3, rfl, rfl⟩
  refine O.l (Lo.alloc [.bool false] (by exact Try.zeroValue4) rfl) rfl ?_
  rintro _ _ ⟨g4, rfl, rfl⟩
  refine O.nilUp ?_
  refine JI.seq ?_
  refine JI.seq ?_
  refine JI.regionUp rfl ?_
  refine O.p (Pu.move rfl) rfl ?_
  refine O.l (Lo.call [lv] (by exact Try.call41) rfl (ev_back lv l) [] [0, 1, 2, 3] (by decide) rfl [var g4 [.bool false] 4, var g3 [.int .i64 0] 3, var g2 [.int .i64 id] 3, var g1 [.int .i64 s] 3] rfl (RoOk.ro 0 rfl [] rfl RoOk.nil)) rfl ?_
  rintro _ _ ⟨_, ⟨gb5, rfl, rfl⟩, rfl⟩
  refine O.nilUp ?_
  refine JI.block ?_
  refine JI.trim [(3, .pointer (some ⟨g1, 0, none⟩)), (4, .pointer (some ⟨g2, 0, none⟩)), (6, .pointer (some ⟨g3, 0, none⟩)), (7, .pointer (some ⟨g4, 0, none⟩)), (11, .func (.func 43) #[] #[.pointer (some ⟨gb5, 0, none⟩)])] ⟨rfl, rfl, rfl, rfl, rfl, trivial⟩ ?_
  refine JI.range (gf := 43) (X := Unit) (Z := Int) (fun m ξ => Sh.askNo l s id m) (fun ξ => [var gb5 [lv] 26, var g4 [.bool false] 4, var g3 [.int .i64 0] 3, var g2 [.int .i64 id] 3, var g1 [.int .i64 s] 3]) (fun x ξ => x = .ret ∧ (Sh.ask s id l = (ξ, true))) (fun ξ => [var gb5 [lv] 26, var g4 [.bool true] 4, var g3 [.int .i64 ξ] 3, var g2 [.int .i64 id] 3, var g1 [.int .i64 s] 3]) rfl rfl (fun _ _ => by rfl) (bw_43 gb5 lv l (by omega)) (by intro x hx; obtain ⟨j, hj⟩ := List.mem_iff_getElem?.1 hx; obtain ⟨e, _, rfl⟩ := bwXs_get hj; rfl) rfl ⟨⟩ Sh.askNo_zero [0, 1, 2, 3, 4] (by decide) rfl (fun ξ => (RoOk.own 0 rfl (RoOk.ro 0 rfl [] rfl RoOk.nil))) (fun l7 D7 rec7 m7 y7 x7 hS7 hT7 hy7 hx7 => ?_) (fun l7 D7 r7 y7 hy7 => ?_) (fun l7 D7 r7 x7 z hy7 => ?_)
  ·
    obtain ⟨e8, he9, rfl⟩ := bwXs_get hx7
    have hno : Sh.askNo l s id m7 := hy7
    show JI _ _ _ ([(13, .agg #[.int .i64 e8.kind, .int .i64 e8.tick, .int .i64 e8.s, .int .i64 e8.id, .int .i64 e8.code, .int .i64 e8.a, .int .i64 e8.b]), (12, .int .i64 ((l.length : Int) - 1 - m7))] ++ [(3, .pointer (some ⟨g1, 0, none⟩)), (4, .pointer (some ⟨g2, 0, none⟩)), (6, .pointer (some ⟨g3, 0, none⟩)), (7, .pointer (some ⟨g4, 0, none⟩)), (11, .func (.func 43) #[] #[.pointer (some ⟨gb5, 0, none⟩)])]) [blk l7 (.loop (rec7 .ready none)), blk D7 (.deferred (some [])), var gb5 [lv] 26, var g4 [.bool false] 4, var g3 [.int .i64 0] 3, var g2 [.int .i64 id] 3, var g1 [.int .i64 s] 3]
    refine JI.regionUp rfl ?_
    refine O.l (Lo.alloc [.int .i64 0, .int .i64 0, .int .i64 0, .int .i64 0, .int .i64 0, .int .i64 0, .int .i64 0] (by exact Try.zeroValue45) rfl) rfl ?_
    rintro _ _ ⟨g10, rfl, rfl⟩
    refine O.l0 (Lo.store 0 (vs := [.int .i64 e8.kind, .int .i64 e8.tick, .int .i64 e8.s, .int .i64 e8.id, .int .i64 e8.code, .int .i64 e8.a, .int .i64 e8.b]) [.int .i64 e8.kind, .int .i64 e8.tick, .int .i64 e8.s, .int .i64 e8.id, .int .i64 e8.code, .int .i64 e8.a, .int .i64 e8.b] rfl rfl rfl (by exact Try.sizeOf45) rfl rfl rfl rfl rfl) ?_
    rintro _ _ rfl
    refine O.nilUp ?_
    refine JI.sel [1, 0, 2, 3, 4, 5, 6, 7] _ (by decide) rfl ?_
    refine JI.begin (hS7 _ _) ?_
    refine JI.block ?_
    refine JI.seq ?_
    refine JI.regionUp rfl ?_
    refine O.p (Pu.fieldAddr (off' := 0) Try.runUnderlying45 rfl Try.sizeOf3 rfl rfl rfl) rfl ?_
    refine O.q (Qt.ld rfl (Cel.var 1 rfl) (o := 0) (off := 0) rfl (Cut.one Try.isAgg3 rfl)) rfl ?_
    refine O.p (Pu.eql rfl rfl) rfl ?_
    refine O.p (Pu.move rfl) rfl ?_
    refine by_bool (decide (e8.kind = 1)) (fun h11 => ?_) (fun h11 => ?_)
    ·
      have p12 := of_decide_eq_true h11
      refine O.gq (t := 17) rfl rfl h11 rfl (Pu.qt (Pu.fieldAddr (off' := 2) Try.runUnderlying45 rfl Try.sizeOf3 rfl rfl rfl)) rfl ?_
      refine O.gq (t := 17) rfl rfl h11 rfl (Qt.ld rfl (Cel.var 1 rfl) (o := 0) (off := 2) rfl (Cut.one Try.isAgg3 rfl)) rfl ?_
      refine O.gq (t := 17) rfl rfl h11 rfl (Qt.ld rfl (Cel.var 7 rfl) (o := 0) (off := 0) rfl (Cut.one Try.isAgg3 rfl)) rfl ?_
      refine O.gq (t := 17) rfl rfl h11 rfl (Pu.qt (Pu.eql rfl rfl)) rfl ?_
      refine O.p (Pu.pickT rfl h11 rfl) rfl ?_
      refine O.p (Pu.move rfl) rfl ?_
      refine by_bool (decide (e8.s = s)) (fun h13 => ?_) (fun h13 => ?_)
      ·
        have p14 := of_decide_eq_true h13
        refine O.gq (t := 23) rfl rfl h13 rfl (Pu.qt (Pu.fieldAddr (off' := 3) Try.runUnderlying45 rfl Try.sizeOf3 rfl rfl rfl)) rfl ?_
        refine O.gq (t := 23) rfl rfl h13 rfl (Qt.ld rfl (Cel.var 1 rfl) (o := 0) (off := 3) rfl (Cut.one Try.isAgg3 rfl)) rfl ?_
        refine O.gq (t := 23) rfl rfl h13 rfl (Qt.ld rfl (Cel.var 6 rfl) (o := 0) (off := 0) rfl (Cut.one Try.isAgg3 rfl)) rfl ?_
        refine O.gq (t := 23) rfl rfl h13 rfl (Pu.qt (Pu.eql rfl rfl)) rfl ?_
        refine O.p (Pu.pickT rfl h13 rfl) rfl ?_
        refine O.nilUp ?_
        refine JI.cond rfl (fun h15 => ?_) (fun h15 => ?_)
        ·
          have p16 := of_decide_eq_true h15
          refine JI.seq ?_
          refine JI.regionUp rfl ?_
          refine O.p (Pu.fieldAddr (off' := 5) Try.runUnderlying45 rfl Try.sizeOf3 rfl rfl rfl) rfl ?_
          refine O.q (Qt.ld rfl (Cel.var 1 rfl) (o := 0) (off := 5) rfl (Cut.one Try.isAgg3 rfl)) rfl ?_
          refine O.l0 (Lo.store 5 (vs := [.int .i64 e8.a]) [.int .i64 e8.a] rfl rfl rfl (by exact Try.sizeOf3) rfl rfl rfl rfl rfl) ?_
          rintro _ _ rfl
          refine O.l0 (Lo.store 4 (vs := [.bool true]) [.bool true] rfl rfl rfl (by exact Try.sizeOf4) rfl rfl rfl rfl rfl) ?_
          rintro _ _ rfl
          refine O.nilUp ?_
          exact RE.ret e8.a (show (Code.ret = .ret) ∧ (Sh.ask s id l = (e8.a, true)) from ⟨rfl, (Sh.askNo_hit hno he9 (by omega) (by omega) (by omega))⟩) rfl [0, 2, 3, 4, 5, 6, 7] (by decide) rfl (fun _ => hT7 .ready none .done _)
        ·
          have p17 := of_decide_eq_false h15
          refine JI.skip ?_
          refine JI.blk ?_
          exact RE.nextS ⟨⟩ (show Sh.askNo l s id (m7 + 1) from (Sh.askNo_next hno he9 (by omega))) rfl [0, 2, 3, 4, 5, 6, 7] (by decide) rfl (hT7 .ready none .ready none)
      ·
        have p18 := of_decide_eq_false h13
        refine O.gskip (t := 23) rfl rfl (no_bool (by rw [h13]; decide)) rfl rfl ?_
        refine O.gskip (t := 23) rfl rfl (no_bool (by rw [h13]; decide)) rfl rfl ?_
        refine O.gskip (t := 23) rfl rfl (no_bool (by rw [h13]; decide)) rfl rfl ?_
        refine O.gskip (t := 23) rfl rfl (no_bool (by rw [h13]; decide)) rfl rfl ?_
        refine O.p (Pu.pickF rfl h13 rfl) rfl ?_
        refine O.nilUp ?_
        refine JI.condF rfl rfl ?_
        refine JI.skip ?_
        refine JI.blk ?_
        exact RE.nextS ⟨⟩ (show Sh.askNo l s id (m7 + 1) from (Sh.askNo_next hno he9 (by omega))) rfl [0, 2, 3, 4, 5, 6, 7] (by decide) rfl (hT7 .ready none .ready none)
    ·
      have p19 := of_decide_eq_false h11
      refine O.gskip (t := 17) rfl rfl (no_bool (by rw [h11]; decide)) rfl rfl ?_
      refine O.gskip (t := 17) rfl rfl (no_bool (by rw [h11]; decide)) rfl rfl ?_
      refine O.gskip (t := 17) rfl rfl (no_bool (by rw [h11]; decide)) rfl rfl ?_
      refine O.gskip (t := 17) rfl rfl (no_bool (by rw [h11]; decide)) rfl rfl ?_
      refine O.p (Pu.pickF rfl h11 rfl) rfl ?_
      refine O.p (Pu.move rfl) rfl ?_
      refine O.gskip (t := 23) rfl rfl (no_bool (by decide)) rfl rfl ?_
      refine O.gskip (t := 23) rfl rfl (no_bool (by decide)) rfl rfl ?_
      refine O.gskip (t := 23) rfl rfl (no_bool (by decide)) rfl rfl ?_
      refine O.gskip (t := 23) rfl rfl (no_bool (by decide)) rfl rfl ?_
      refine O.p (Pu.pickF rfl rfl rfl) rfl ?_
      refine O.nilUp ?_
      refine JI.condF rfl rfl ?_
      refine JI.skip ?_
      refine JI.blk ?_
      exact RE.nextS ⟨⟩ (show Sh.askNo l s id (m7 + 1) from (Sh.askNo_next hno he9 (by omega))) rfl [0, 2, 3, 4, 5, 6, 7] (by decide) rfl (hT7 .ready none .ready none)
  ·
    have hno : Sh.askNo l s id (bwXs (fun x : Ev => .agg #[.int .i64 x.kind, .int .i64 x.tick, .int .i64 x.s, .int .i64 x.id, .int .i64 x.code, .int .i64 x.a, .int .i64 x.b]) l).length := hy7
    rw [bwXs_length] at hno
    show JI _ _ _ [(3, .pointer (some ⟨g1, 0, none⟩)), (4, .pointer (some ⟨g2, 0, none⟩)), (6, .pointer (some ⟨g3, 0, none⟩)), (7, .pointer (some ⟨g4, 0, none⟩)), (11, .func (.func 43) #[] #[.pointer (some ⟨gb5, 0, none⟩)])] [blk l7 (.loop r7), blk D7 (.deferred (some [])), var gb5 [lv] 26, var g4 [.bool false] 4, var g3 [.int .i64 0] 3, var g2 [.int .i64 id] 3, var g1 [.int .i64 s] 3]
    refine JI.blk ?_
    refine JI.seq ?_
    refine JI.regionUp rfl ?_
    refine O.l0 (Lo.store 4 (vs := [.int .i64 0]) [.int .i64 0] rfl rfl rfl (by exact Try.sizeOf3) rfl rfl rfl rfl rfl) ?_
    rintro _ _ rfl
    refine O.l0 (Lo.store 3 (vs := [.bool false]) [.bool false] rfl rfl rfl (by exact Try.sizeOf4) rfl rfl rfl rfl rfl) ?_
    rintro _ _ rfl
    refine O.nilUp ?_
    exact JI.retM (j := 1) rfl rfl rfl (Fin.ret (rs := [.cell 6 3, .cell 7 4]) rfl [_, _] ⟨⟨_, _, 0, 0, _, rfl, (Cel.var 4 rfl), rfl, (Cut.one Try.isAgg3 rfl)⟩, ⟨_, _, 0, 0, _, rfl, (Cel.var 3 rfl), rfl, (Cut.one Try.isAgg4 rfl)⟩, trivial⟩ [] (by decide) [] rfl ⟨(by rw [Sh.askNo_end hno]; rfl), rfl⟩)
  ·
    obtain ⟨rfl, hz⟩ := hy7
    show JI _ _ _ [(3, .pointer (some ⟨g1, 0, none⟩)), (4, .pointer (some ⟨g2, 0, none⟩)), (6, .pointer (some ⟨g3, 0, none⟩)), (7, .pointer (some ⟨g4, 0, none⟩)), (11, .func (.func 43) #[] #[.pointer (some ⟨gb5, 0, none⟩)])] [blk l7 (.loop r7), blk D7 (.deferred (some [])), var gb5 [lv] 26, var g4 [.bool true] 4, var g3 [.int .i64 z] 3, var g2 [.int .i64 id] 3, var g1 [.int .i64 s] 3]
    exact JI.retM (j := 1) rfl rfl rfl (Fin.ret (rs := [.cell 6 3, .cell 7 4]) rfl [_, _] ⟨⟨_, _, 0, 0, _, rfl, (Cel.var 4 rfl), rfl, (Cut.one Try.isAgg3 rfl)⟩, ⟨_, _, 0, 0, _, rfl, (Cel.var 3 rfl), rfl, (Cut.one Try.isAgg4 rfl)⟩, trivial⟩ [] (by decide) [] rfl ⟨(by rw [hz]; rfl), rfl⟩)

end Go.Proofs.Ytdnalilglacjbaa
